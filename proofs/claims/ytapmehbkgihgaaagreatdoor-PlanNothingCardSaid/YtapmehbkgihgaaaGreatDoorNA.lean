/- Part 1 of the proof: an abstract interpreter for the code, contracts of the functions, and plain facts; the conditions are those typed. -/
import Derived.WalkKit
import Derived.WalkLawsBesides
import Derived.CallsIn
import Derived.RangeFuncNested
import Derived.Lib.TrailingZeros
import Derived.ChangeKeysEq
import Derived.MapKept
import Derived.KernelRfl
set_option linter.unusedSectionVars false
set_option linter.unusedVariables false
set_option linter.unusedSimpArgs false
namespace Go.AI
open Go
theorem aI {p:Prop} (h:p:=by kernel_rfl):p:=h
theorem ar {p:Prop} (h:p:=by omega):p:=h
theorem bq {p:Prop} (h:p:=by decide):p:=h
theorem cU {p:Prop} (h:p:=by simp):p:=h
theorem bf {p:Prop} (h:p:=by assumption):p:=h
abbrev ah:=@Nat.le_of_ble_eq_true
abbrev ai:=@List.getElem?_eq_getElem
abbrev aj:=@Nat.eq_of_beq_eq_true
abbrev al:=@Bool.and_eq_true
abbrev am:=@List.getElem?_eq_some_iff
abbrev aw:=@Go.Result.andThen_ok
abbrev ax:=@congrArg
abbrev az:=@List.length_map
abbrev aA:=@Option.map_eq_some_iff
abbrev aB:=@Option.some.injEq
abbrev aC:=@List.mem_of_getElem?
abbrev aD:=@Go.Sem.run_bind
abbrev aE:=@Array.getElem?_eq_getElem
abbrev aG:=@Array.getD_eq_getD_getElem?
abbrev aL:=@Go.Sem.run_pure
abbrev aN:=@List.all_eq_true
abbrev aO:=@Array.getElem?_eq_some_iff
abbrev aP:=@decide_eq_true_eq
abbrev aQ:=@List.getElem?_map
abbrev aR:=@cond_true
abbrev aV:=@if_neg
abbrev aX:=@if_pos
abbrev aY:=@Go.run_underlying
abbrev a6:=@List.mem_cons_of_mem
abbrev a7:=@List.mem_cons_self
abbrev ba:=@Nat.le_refl
abbrev bg:=@Nat.mul_le_mul_right
abbrev bp:=@List.mem_map
abbrev br:=@cond_false
abbrev bt:=@List.length_cons
abbrev bv:=@Bool.false_eq_true
abbrev bw:=@List.getElem?_cons_zero
abbrev bB:=@List.mem_range
abbrev bC:=@Nat.le_trans
abbrev bF:=@List.mem_cons
abbrev bG:=@Bool.true_and
abbrev bH:=@Option.map_some
abbrev bI:=@Nat.zero_add
abbrev bR:=@List.append_nil
abbrev bT:=@List.getElem_mem
abbrev bY:=@List.length_append
abbrev cn:=@List.getElem?_of_mem
abbrev cp:=@List.map_cons
abbrev cq:=@Bool.or_eq_true
abbrev cu:=@if_false
abbrev cw:=@List.getElem_of_mem
abbrev cF:=@List.getElem?_append_right
abbrev cI:=@Bool.not_eq_true'
abbrev cL:=@Array.getElem?_toList
abbrev cY:=@Go.MapKept.run_getObj_map
abbrev c5:=@if_true
abbrev c6:=@List.range_eq_range'
abbrev c9:=@Go.World.putObj_heap_other
abbrev da:=@List.getElem?_drop
abbrev de:=@Nat.ne_of_beq_eq_false
abbrev dg:=@List.drop_of_length_le
abbrev dk:=@Nat.add_mul
abbrev dm:=@Nat.lt_of_lt_of_le
abbrev dn:=@Array.getElem?_setIfInBounds
abbrev dp:=@List.getElem?_append_left
abbrev dq:=@List.drop_eq_getElem_cons
abbrev dy:=@List.mem_of_mem_take
abbrev dA:=@List.length_take
abbrev dL:=@List.getElem?_take
abbrev dQ:=@decide_eq_true
abbrev dV:=@Nat.add_assoc
abbrev ea:=@beq_self_eq_true
abbrev ee:=@Nat.add_zero
abbrev ep:=@Bool.not_false
abbrev er:=@Prod.mk.injEq
abbrev ez:=@List.map_toArray
abbrev eN:=@List.getElem?_toArray
abbrev eU:=@List.map_nil
abbrev ff:=@List.range'_succ
abbrev fg:=@List.getElem?_cons_succ
abbrev fq:=@Go.World.alloc_heap_new
abbrev fu:=@Bool.or_false
abbrev fR:=@List.getElem?_eq_none
abbrev gh:=@List.mem_of_mem_drop
abbrev gy:=@List.cons.injEq
abbrev gD:=@Go.RowKit.Below.heap_alloc
abbrev gE:=@Array.getElem?_push
abbrev gP:=@Bool.false_or
abbrev iN:=@not_true_eq_false
abbrev iO:=@List.size_toArray
abbrev jj:=@Bool.not_true
abbrev jk:=@Go.setRow_other
abbrev ju:=@Go.Oper.semAt_eq
abbrev jZ:=@Array.getElem?_eq_none
abbrev lL:=@Option.getD_some
abbrev lM:=@Nat.mod_eq_of_lt
abbrev lO:=@Go.World.cell?_alloc_lt
abbrev my:=@Option.isSome_iff_exists
abbrev nd:=@Nat.mod_lt
abbrev ne:=@Nat.eq_zero_or_pos
abbrev ni:=@Nat.one_mul
abbrev nm:=@Go.World.size_drew
abbrev n5:=@Int.mul_comm
abbrev n7:=@Array.size_append
abbrev oJ:=@Go.run_storeCells_at
abbrev oK:=@Go.World.putObj_heap_same
abbrev oL:=@Go.World.alloc_eq
abbrev oM:=@Go.Oper.uponIn_enter
abbrev oN:=@Go.MapKept.run_setObj_map
abbrev pR:=@Nat.lt_of_not_le
abbrev pW:=@Array.ext'
abbrev qm:=@List.eq_nil_of_length_eq_zero
abbrev rD:=@Nat.min_eq_left
abbrev rE:=@List.foldl_cons
abbrev su:=@Go.run_append_grow
abbrev tn:=@beq_iff_eq
abbrev tq:=@and_true
abbrev vE:=@Array.mapM_eq_mapM_toList
abbrev vI:=@Go.size_zeroCells
abbrev vJ:=@Go.run_newObj
abbrev vK:=@not_false_eq_true
abbrev vL:=@Go.growslice_fits
abbrev vR:=@List.ext_getElem?
abbrev x3:=@Go.setRow_heap
abbrev x7:=@Go.run_program
abbrev yn:=@List.getElem?_replicate
abbrev yq:=@Array.toList_map
abbrev AE:=@Nat.succ_mul
abbrev AN:=@ne_eq
abbrev AP:=@Option.map_none
abbrev AR:=@List.length_nil
abbrev AS:=@List.head?_drop
abbrev Hg:=@List.mapM_cons
abbrev Lh:=@List.length_pos_iff
abbrev Lr:=@Go.run_append_nil
abbrev Ls:=@Go.grownCap_ge
abbrev Lu:=@Go.Sem.run_ite
abbrev NF:=@Array.getElem?_map
abbrev R8:=@Array.getElem?_setIfInBounds_ne
abbrev VB:=@Go.run_equalIn_array
abbrev VD:=@Go.cell_setRow_other
abbrev VF:=@Go.Value.slice.injEq
abbrev Zb:=@List.tail_drop
abbrev Zj:=@Go.run_equalIn_int
abbrev Zr:=@Go.Result.ok.injEq
abbrev aaB:=@Go.RowKit.Below.refl
end Go.AI
namespace Go.AI
open Go
inductive Own where
 | no | full | id (k:Nat)
inductive Qw where
 | sl | ptr (sz j:Nat) | arr | mp | ents | sub (sz off:Nat) | box
 /-- A row whose block and room are known. -/
 | row (b cap:Nat)
inductive AV where
 | junk | undef
 | int (k:IntKind) (n:Int)
 | bool (b:Bool)
 | str (s:ByteArray)
 | lit (v:Value)
 | fn (f:FuncId)
 | clo (f:FuncId) (cap:List AV)
 | agg (cs:List AV)
 | tup (vs:List AV)
 | sl (o:Own) (sz:Nat) (xs:List (List AV))
 | loc (d off:Nat)
 | ref (cs:List AV)
 /-- A map that is written no more: its gI,each a key and a value. -/
 | mapv (xs:List (List AV))
 | me (g:Qw) (k n:Nat) (xs:List (List AV))
 /-- A pointer into a box whose block is known; the cells behind it that are written no more. -/
 | pin (k b off:Nat) (cs:List AV)
def d9 (a:List Int):Value := .agg (a.map (Value.int .i64)).toArray
def keyA (a:List Int):AV := .agg (a.map (AV.int .i64))
def j6 (l:List (List Int×AV)):List (List AV):=l.map fun p=>[keyA p.1,p.2]
def jM (k:List Int) (v:AV):List (List Int×AV)->List (List Int×AV)
 | []=>[(k,v)]
 |(k',a)::r=>if k'=k then (k,v)::r else (k',a)::jM k v r
def cst:Value->AV
 | .int k n => .int k n
 | .bool b => .bool b
 | .string s => .str s
 | .nilFunc => .lit .nilFunc
 | .pointer none => .lit (.pointer none)
 | .map none => .lit (.map none)
 | .nilIface => .lit .nilIface
 | .slice none 0 0 => .sl .full 0 []
 | _ => .junk
def Qr:Value->AV
 | .agg cs => .agg (cs.toList.map cst)
 | v=>cst v
structure TI where
 size:Nat
 bytes:Nat
 zero:AV
 flds:List (Nat×Nat)
 arr:Nat
 elem:Nat
 /-- 0 other,1 struct,2 array,3 slice,4 int,5 bool,6 string,7 pointer,8 func,9 map -/
 kind:Nat
 ik:IntKind
 eqOK:Bool
def wE (P:Program) (f:Field):Bool:=f.name != "_" && ((P.underlying f.type).map fun | .int _=>true | .struct _=>true | _=>false).getD false
def IN (P:Program) (e:TypeId):Bool:=((P.underlying e).map fun | .bool=>true | _=>false).getD false
def OR (P:Program) (e:TypeId):Bool:=((P.underlying e).map fun | .int _=>true | _=>false).getD false
def DW (P:Program) (t e:TypeId):Bool := !P.eqGuardType P.depth t&&(P.info? e).isSome&&OR P e&&(P.cellsOf e==1)
def yG (P:Program) (t e:TypeId):Bool := !P.eqGuardType P.depth t&&(P.info? e).isSome&&IN P e&&(P.cellsOf e==1)
def TI.of (P:Program) (t:TypeId):Option TI:=
  match P.info? t,P.underlying t with
  | some i,some d=>some
    { size:=i.size,bytes:=i.bytes,zero:=match i.zero with | some z=>Qr z | none => .junk,
      flds:=match d with | .struct fs=>fs.toList.map fun f=>(f.offset,f.type) | .map k _=>[(0,k)] | .array _ e=>(bif yG P t e then [(0,e)] else bif DW P t e then [(1,e)] else []) | _=>[],
      arr:=match d with | .array n _=>n | .struct fs=>bif !P.stoodInHeld t && !P.eqGuardType P.depth t&&fs.toList.all (wE P) then 1 else 0 | _=>0,
      elem:=match d with | .array _ e=>e | .slice e=>e | .pointer e=>e | .map _ e=>e | _=>0,
      kind:=match d with | .struct _=>1 | .array _ _=>2 | .slice _=>3 | .int _=>4 | .bool=>5 | .string=>6 | .pointer _=>7 | .func _ _ _=>8 | .map _ _=>9 | _=>0,
      ik:=match d with | .int k=>k | _ => .i64,
      eqOK:=match d with | .struct fs => !P.stoodInHeld t && !P.eqGuardType P.depth t&&fs.toList.all (fun f=>f.name != "_" && ((P.underlying f.type).map fun | .int _=>true | _=>false).getD false&&(P.cellsOf f.type==1)) | _=>false }
  | _,_=>none
def HL:List (Nat×Nat)->Nat->Nat->Bool
 | [],m,n=>Nat.beq m n
 |(o,_)::r,m,n=>Nat.beq o m&&HL r (m+1) n
def ut (i:TI):Bool:=i.eqOK&&HL i.flds 0 i.size
def Yt:IntKind->Bool
 | .i64=>true
 | _=>false
def tp:List (Nat×Nat)->Nat
 | []=>0
 |(o,_)::_=>o+1
def qQ (i:TI):Bool:=Nat.beq i.kind 2&&(Nat.beq (tp i.flds) 2&&Nat.beq i.size i.arr)
def ny (i:TI):Option (Bool×Nat):=bif Nat.beq i.kind 4&&Yt i.ik then some (false,1) else bif ut i then some (true,i.size) else bif qQ i then some (true,i.arr) else none
def keyE (sk:Bool) (a:List Int):AV:=bif sk then keyA a else (match a with | n::_ => .int .i64 n | [] => .junk)
def HT (l:List (List Int×AV)):List (List AV):=l.map fun p=>[keyE false p.1,p.2]
def f8 (sk:Bool) (l:List (List Int×AV)):List (List AV):=bif sk then j6 l else HT l
def nj (k:List Int):List (List Int×AV)->Option AV
 | []=>none
 |(k',a)::r=>if k'=k then some a else nj k r
def XO (ok:Bool) (z:AV):Option AV->AV
 | some v=>bif ok then .tup [v,.bool true] else v
 | none=>bif ok then .tup [z,.bool false] else z
def get {α:Type}:List (Nat×α)->Nat->Option α
 | [],_=>none
 |(d,v)::r,k=>bif Nat.beq d k then some v else get r k
abbrev eS:=List (Nat×TI)
def eS.OK (T:eS) (P:Program):Prop:=T.map (fun p=>TI.of P p.1)=T.map (fun p=>some p.2)
theorem eS.OK.get {T:eS} {P} (h:T.OK P) {t} {i} (g:AI.get T t=some i):TI.of P t=some i:=by
 unfold eS.OK at h
 induction T with
 | nil=>simp [AI.get] at g
 | cons p r b=>
  obtain ⟨d,v⟩:=p;simp only [cp,gy] at h;simp only [AI.get] at g
  cases a:Nat.beq d t with
  | true=>rw [a] at g; simp only [aR,aB] at g; rw [<- aj a,h.1,g]
  | false=>grind
def qj {α:Type}:List α->Nat->Option α
 | [],_=>none
 | x::_,0=>some x
 | _::r,n+1=>qj r n
structure St where
 t:List (Nat×AV)
 b:List (Nat×List AV)
def St.tmp (s:St) (d:Nat):AV:=match get s.t d with | some v=>v | none => .junk
def St.put (s:St) (d:Option Nat) (v:AV):St:=match d with | some d=>{ s with t:=(d,v)::s.t } | none=>s
def ev (s:St):Operand->AV
 | .tmp t=>s.tmp t
 | .const v=>cst v
 | .func f => .fn f
 | .global _ => .junk
def AV.go1 (v:AV) (K:AV->Prop):Prop:=
 match v with
 | .junk=>K .junk
 | .undef=>K .undef
 | .int k n=>K (.int k n)
 | .bool b=>K (.bool b)
 | .str s=>K (.str s)
 | .lit v=>K (.lit v)
 | .fn f=>K (.fn f)
 | .clo f cap=>K (.clo f cap)
 | .agg cs=>K (.agg cs)
 | .tup vs=>K (.tup vs)
 | .sl o sz xs=>K (.sl o sz xs)
 | .loc d off=>K (.loc d off)
 | .ref cs=>K (.ref cs)
 | .mapv xs=>K (.mapv xs)
 | .me g k n xs=>K (.me g k n xs)
 | .pin k b off cs=>K (.pin k b off cs)
theorem oH (v) (K:AV->Prop):v.go1 K=K v:=by cases v <;> rfl
def Mt:List AV->(List AV->Prop)->Prop
 | [],K=>K []
 | v::r,K=>v.go1 fun v=>Mt r fun r=>K (v::r)
theorem lU:∀ (l:List AV) (K:List AV->Prop),Mt l K=K l
 | [],_=>rfl
 | v::r,K=>by rw [Mt,oH,lU r]
def WE:List (List AV)->(List (List AV)->Prop)->Prop
 | [],K=>K []
 | v::r,K=>Mt v fun v=>WE r fun r=>K (v::r)
theorem Du:∀ (l:List (List AV)) (K:List (List AV)->Prop),WE l K=K l
 | [],_=>rfl
 | v::r,K=>by rw [WE,lU,Du r]
def AV.go (v:AV) (K:AV->Prop):Prop:=v.go1 fun v=>match v with
 | .agg cs=>Mt cs fun cs=>K (.agg cs)
 | .ref cs=>Mt cs fun cs=>K (.ref cs)
 | .pin k b off cs=>Mt cs fun cs=>K (.pin k b off cs)
 | .me g k n xs=>match g,xs with
  | .box,[own]=>Mt own fun own=>K (.me .box k n [own])
  | g,xs=>K (.me g k n xs)
 | v=>K v
theorem AV.go_eq (v) (K:AV->Prop):v.go K=K v:=by
 unfold AV.go;rw [oH]
 cases v with
 | me g k n xs=>
  simp only;split
  ·exact lU _ _
  ·rfl
 | _=>first | rfl | exact lU _ _
def iX (f:AV->AV):List (Nat×AV)->List (Nat×AV)
 | []=>[]
 |(k,v)::r=>(k,f v)::iX f r
def Il (f:AV->AV):List (Nat×List AV)->List (Nat×List AV)
 | []=>[]
 |(k,v)::r=>(k,v.map f)::Il f r
theorem o5 (f:AV->AV):∀ t:List (Nat×AV),iX f t=t.map fun p=>(p.1,f p.2)
 | []=>rfl
 |(k,v)::r=>by rw [iX,o5 f r]; rfl
theorem yz (f:AV->AV):∀ t:List (Nat×List AV),Il f t=t.map fun p=>(p.1,p.2.map f)
 | []=>rfl
 |(k,v)::r=>by rw [Il,yz f r]; rfl
def XR:List (Nat×AV)->(List (Nat×AV)->Prop)->Prop
 | [],K=>K []
 |(k,v)::r,K=>v.go fun v=>XR r fun r=>K ((k,v)::r)
theorem qT:∀ (l:List (Nat×AV)) (K:List (Nat×AV)->Prop),XR l K=K l
 | [],_=>rfl
 |(k,v)::r,K=>by rw [XR,AV.go_eq,qT r]
def WF:List (Nat×List AV)->(List (Nat×List AV)->Prop)->Prop
 | [],K=>K []
 |(k,v)::r,K=>Mt v fun v=>WF r fun r=>K ((k,v)::r)
theorem OG:∀ (l:List (Nat×List AV)) (K:List (Nat×List AV)->Prop),WF l K=K l
 | [],_=>rfl
 |(k,v)::r,K=>by rw [WF,lU,OG r]
def St.go (s:St) (K:St->Prop):Prop:=match s with
 | ⟨t,b⟩=>XR t fun t=>WF b fun b=>K ⟨t,b⟩
theorem St.go_eq (s) (K:St->Prop):s.go K=K s:=by
 obtain ⟨t,b⟩:=s;simp only [St.go,qT,OG]
def Xz:Op->Bool
 | .box _ _ | .alloc _ | .makeFunc _ _ _ | .makeSlice _ _ _ | .makeMap _ _=>true
 | .assign (.const (.slice none 0 0)) | .move (.const (.slice none 0 0))=>true
 | .call { callee := .builtin .append,args:=_,argTypes:=_ }=>true
 | _=>false
def Dv (op:Op) (s:St) (K:St->Prop):Prop:=bif Xz op then s.go K else K s
theorem uy (op) (s) (K):Dv op s K=K s:=by
 unfold Dv
 cases Xz op with
 | true=>rw [aR,St.go_eq]
 | false=>rfl
def goB (s:St) (K:St->Prop):Prop:=match s with
 | ⟨t,(d,cs)::b⟩=>Mt cs fun cs=>K ⟨t,(d,cs)::b⟩
 | ⟨t,[]⟩=>K ⟨t,[]⟩
theorem Yy (s) (K):goB s K=K s:=by
 obtain ⟨t,b⟩:=s
 cases b with
 | nil=>rfl
 | cons p b=>obtain ⟨d,cs⟩:=p; exact lU _ _
def Yx (k:Nat) (s:St) (K:St->Prop):Prop:=match s with
 | ⟨t,(d,cs)::b⟩=>bif Nat.beq d k then Mt cs fun cs=>K ⟨t,(d,cs)::b⟩ else K ⟨t,(d,cs)::b⟩
 | ⟨t,[]⟩=>K ⟨t,[]⟩
theorem WG (k) (s) (K):Yx k s K=K s:=by
 obtain ⟨t,b⟩:=s
 cases b with
 | nil=>rfl
 | cons p b=>
  obtain ⟨d,cs⟩:=p;simp only [Yx]
  cases Nat.beq d k with
  | true=>rw [aR]; exact lU _ _
  | false=>rfl
def AV.isCell:AV->Bool
 | .int _ _ | .bool _ | .str _ | .lit _ | .fn _ | .clo _ _ | .sl _ _ _ | .ref _ | .mapv _ | .pin _ _ _ _=>true
 | _=>false
def AV.cells?:AV->Option (List AV)
 | .agg cs=>some cs
 | .junk | .undef | .tup _ | .loc _ _ | .me _ _ _ _=>none
 | x=>some [x]
def AV.pub1:AV->AV
 | .loc _ _ | .me _ _ _ _ => .junk
 | .sl (.id _) sz xs => .sl .no sz xs
 | x=>x
def AV.pub:AV->AV
 | .agg cs => .agg (cs.map AV.pub1)
 | .tup vs => .tup vs
 | x=>x.pub1
def AV.demO (k:Nat):AV->AV
 | .sl (.id j) sz xs => .sl (bif Nat.beq j k then .no else .id j) sz xs
 | x=>x
def AV.dem1 (k:Nat):AV->AV
 | .junk => .junk
 | .sl (.id j) sz xs => .sl (bif Nat.beq j k then .no else .id j) sz xs
 | .me .box j b xs => .me .box j b (xs.map fun r=>r.map (AV.demO k))
 | x=>x
def AV.dem (k:Nat):AV->AV
 | .agg cs => .agg (cs.map (AV.dem1 k))
 | x=>x.dem1 k
def St.dem (k:Nat) (s:St):St:={ t:=iX (AV.dem k) s.t,b:=Il (AV.dem1 k) s.b }
def MO {α:Type}:List α->List α->Bool
 | [],_=>true
 | _::_,_::_=>true
 | _::_,[]=>false
def s7 {α:Type}:List α->Bool
 | []=>false
 | _::_=>true
theorem Qu {α} {xs a:List α} (h:MO xs a=true):xs=[]\/a≠[]:=by
 cases xs with
 | nil=>exact .inl rfl
 | cons x r=>
  cases a with
  | nil=>cases h
  | cons y q=>exact .inr cU
def dD {α:Type}:List α->Nat->α->List α
 | [],_,_=>[]
 | _::r,0,v=>v::r
 | x::r,n+1,v=>x::dD r n v
def setMany {α:Type} (l:List α) (off:Nat):List α->List α
 | []=>l
 | v::vs=>setMany (dD l off v) (off+1) vs
def tZ {α:Type}:List α->Nat->List α->List α
 | [],_,_=>[]
 | x::r,0,[]=>x::r
 | _::r,0,v::vs=>v::tZ r 0 vs
 | x::r,n+1,vs=>x::tZ r n vs
theorem xc {α:Type}:∀ (vs:List α) (n:Nat),setMany ([]:List α) n vs=[]
 | [],_=>rfl
 | _::vs,n=>xc vs (n+1)
theorem oZ {α:Type} (x:α):∀ (vs r:List α) (n:Nat),setMany (x::r) (n+1) vs=x::setMany r n vs
 | [],_,_=>rfl
 | v::vs,r,n=>oZ x vs (dD r n v) (n+1)
theorem lm {α:Type}:∀ (l:List α) (n:Nat) (vs:List α),tZ l n vs=setMany l n vs
 | [],n,vs=>(xc vs n).symm
 | _::_,0,[]=>rfl
 | _::r,0,v::vs=>by rw [tZ,lm r]; exact (oZ v vs r 0).symm
 | x::r,n+1,vs=>by rw [tZ,lm r,oZ]
def eO (i:TI) (cs:List AV):Option AV:=
 bif Nat.beq i.kind 1||Nat.beq i.kind 2 then (bif Nat.ble i.size cs.length then some (.agg (cs.take i.size)) else none)
 else match cs with | c::_=>some c | []=>none
def fill (place:Nat->Option (Nat×Nat)) (cells:List AV):List (Nat×AV)->Option (List AV)
 | []=>some cells
 |(i,v)::rest=>
  match place i with
  | none=>none
  | some (off,size)=>
   match v.cells? with
   | none=>none
   | some cs=>bif Nat.beq cs.length size&&Nat.ble (off+size) cells.length then fill place (setMany cells off cs) rest else none
def ID (place:Nat->Option (Nat×Nat)) (cells:List AV) (l:List (Nat×AV)) (K:List AV->Prop):Prop:=match l with
 | []=>K cells
 |(i,v)::rest=>
  match place i with
  | none=>False
  | some (off,size)=>
   match v.cells? with
   | none=>False
   | some cs=>bif Nat.beq cs.length size&&Nat.ble (off+size) cells.length then Mt (tZ cells off cs) fun cells=>ID place cells rest K else False
theorem uA (place:Nat->Option (Nat×Nat)) (K:List AV->Prop):∀ (l:List (Nat×AV)) (cells:List AV),ID place cells l K=match fill place cells l with | some cs=>K cs | none=>False
 | [],_=>rfl
 |(i,v)::rest,cells=>by
  simp only [ID,fill]
  cases place i with
  | none=>rfl
  | some q=>
   obtain ⟨off,size⟩:=q;simp only
   cases v.cells? with
   | none=>rfl
   | some cs=>
    simp only
    cases (Nat.beq cs.length size&&Nat.ble (off+size) cells.length) with
    | true=>simp only [aR,lU,lm]; exact uA place K rest _
    | false=>rfl
def pw (op:BinOp) (k:IntKind) (x y:Int):Int:=
 let a:=BitVec.ofInt k.bits x
 let b:=BitVec.ofInt k.bits y
 match op with
 | .and=>k.wrap (a &&& b).toNat
 | .or=>k.wrap (a ||| b).toNat
 | .xor=>k.wrap (a ^^^ b).toNat
 | .andNot=>k.wrap (a &&& ~~~b).toNat
 | _=>0
def bandW (b:Bool) (A:Prop):Prop:=bif b then A else False
theorem pz {b} {A} (h:bandW b A):b=true/\A:=by
 cases b with
 | true=>exact ⟨rfl,h⟩
 | false=>exact h.elim
def ww:IntKind->IntKind->Bool
 | .i8,.i8=>true | .i16,.i16=>true | .i32,.i32=>true | .i64,.i64=>true
 | .u8,.u8=>true | .u16,.u16=>true | .u32,.u32=>true | .u64,.u64=>true
 | _,_=>false
theorem rO {k k'} (h:ww k k'=true):k=k':=by cases k <;> cases k' <;> first | rfl | cases h
def ikW (k k':IntKind) (A:Prop):Prop:=bif ww k k' then A else False
theorem fW {k k'} {A} (h:ikW k k' A):k=k'/\A:=by
 unfold ikW at h
 cases a:ww k k' with
 | true=>grind [rO]
 | false=>grind
def nz:List (Nat×Nat)->List AV->List AV->Option Bool
 | [],_,_=>some true
 |(off,_)::r,xs,a=>
  match qj xs off,qj a off,nz r xs a with
  | some (.int k x),some (.int k' y),some b=>bif ww k k' then some ((x==y)&&b) else none
  | _,_,_=>none
def TP (T:eS) (f:Nat->List AV->List AV->Option Bool):List (Nat×Nat)->List AV->List AV->Option Bool
 | [],_,_=>some true
 |(off,ft)::r,xs,c=>match get T ft with
  | none=>none
  | some j=>bif Nat.beq j.kind 4 then
    (match qj xs off,qj c off,TP T f r xs c with
    | some (.int k x),some (.int k' y),some b=>bif ww k k' then some ((x==y)&&b) else none
    | _,_,_=>none)
   else match f ft ((xs.drop off).take j.size) ((c.drop off).take j.size),TP T f r xs c with
    | some a,some b=>some (a&&b)
    | _,_=>none
def pi:Nat->List AV->List AV->Option Bool
 | 0,_,_=>some true
 | n+1,.bool x::xs,.bool y::a=>match pi n xs a with
  | some b=>some ((x==y)&&b)
  | none=>none
 | _,_,_=>none
def ph:Nat->List AV->List AV->Option Bool
 | 0,_,_=>some true
 | n+1,.int k x::xs,.int k' y::a=>match ph n xs a with
  | some b=>bif ww k k' then some ((x==y)&&b) else none
  | none=>none
 | _,_,_=>none
def wF (T:eS):Nat->Nat->List AV->List AV->Option Bool
 | 0,_,_,_=>none
 | n+1,t,xs,a=>match get T t with
  | none=>none
  | some i=>bif i.eqOK then nz i.flds xs a else bif Nat.beq i.kind 1&&Nat.beq i.arr 1 then TP T (wF T n) i.flds xs a else bif Nat.beq i.kind 2&&Nat.beq (tp i.flds) 1 then pi i.arr xs a else bif Nat.beq i.kind 2&&Nat.beq (tp i.flds) 2 then ph i.arr xs a else none
def Ma (T:eS) (op:BinOp) (t:TypeId) (b:Bool) (K:AV->Prop):Prop:=
 match get T t,op with
 | some i,.eql=>bandW (Nat.beq i.kind 8) (K (.bool b))
 | some i,.neq=>bandW (Nat.beq i.kind 8) (K (.bool (!b)))
 | _,_=>False
def yj (T:eS) (op:BinOp) (t:TypeId) (a b:AV) (K:AV->Prop):Prop:=
 match a,b with
 | .int k x,.int k' y=>
  match op with
  | .add=>ikW k k' (K (.int k (k.wrap (x+y))))
  | .sub=>ikW k k' (K (.int k (k.wrap (x - y))))
  | .mul=>ikW k k' (K (.int k (k.wrap (x*y))))
  | .quo=>ikW k k' (y≠0/\K (.int k (k.wrap (x.tdiv y))))
  | .rem=>ikW k k' (y≠0/\K (.int k (x.tmod y)))
  | .and=>ikW k k' (K (.int k (pw .and k x y)))
  | .or=>ikW k k' (K (.int k (pw .or k x y)))
  | .xor=>ikW k k' (K (.int k (pw .xor k x y)))
  | .andNot=>ikW k k' (K (.int k (pw .andNot k x y)))
  | .shl=>0<=y/\K (.int k (k.wrap (x*2 ^ (min y.toNat k.bits))))
  | .shr=>0<=y/\K (.int k (x.fdiv (2 ^ (min y.toNat k.bits))))
  | .eql=>ikW k k' (K (.bool (x==y)))
  | .neq=>ikW k k' (K (.bool (x != y)))
  | .lss=>ikW k k' (K (.bool (decide (x<y))))
  | .leq=>ikW k k' (K (.bool (decide (x<=y))))
  | .gtr=>ikW k k' (K (.bool (decide (x>y))))
  | .geq=>ikW k k' (K (.bool (decide (x>=y))))
 | .bool x,.bool y=>
  match get T t,op with
  | some i,.eql=>bandW (Nat.beq i.kind 5) (K (.bool (x==y)))
  | some i,.neq=>bandW (Nat.beq i.kind 5) (K (.bool (x != y)))
  | _,_=>False
 | .agg xs,.agg c=>
  match get T t,op with
  | some _,.eql=>match wF T 4 t xs c with | some e=>K (.bool e) | none=>False
  | some _,.neq=>match wF T 4 t xs c with | some e=>K (.bool (!e)) | none=>False
  | _,_=>False
 | .lit u,.lit v=>match u,v with
  | .nilFunc,.nilFunc=>Ma T op t true K
  | _,_=>False
 | .clo _ _,.lit v=>match v with
  | .nilFunc=>Ma T op t false K
  | _=>False
 | .fn _,.lit v=>match v with
  | .nilFunc=>Ma T op t false K
  | _=>False
 | _,_=>False
def Zf (op:UnOp) (a:AV) (K:AV->Prop):Prop:=
 match op,a with
 | .neg,.int k x=>K (.int k (k.wrap (0 - x)))
 | .not,.bool b=>K (.bool (!b))
 | _,_=>False
def jU (o:Option AV) (a:Nat) (K:Nat->Prop):Prop:=
 match o with
 | none=>K a
 | some (.int _ n)=>0<=n/\K n.toNat
 | _=>False
def mn (big:Bool) (k:IntKind) (x:Int):List AV->Option Int
 | []=>some x
 | .int _ y::r=>mn big k (bif big then max x y else min x y) r
 | _=>none
open Go
def Td (T:eS) (p:Nat×Nat):Bool:=match get T p.2 with | some _=>true | none=>false
def szOK (size sz:Nat) (xs:List (List AV)) (K:Prop):Prop:=
 bif Nat.beq size sz then K else match xs with | []=>K | _::_=>False
def rh (v:AV):Option (List AV):=match v.cells? with
 | some cs=>bif cs.all (fun c=>c.isCell) then some (cs.map AV.pub1) else none
 | none=>none
def kF (e:Operand->AV):List (Nat×Operand)->Nat->Nat->Option (List (List AV))
 | [],_,_=>some []
 |(i,x)::r,n,sz=>match rh (e x),kF e r (n+1) sz with
  | some cs,some l=>bif Nat.beq i n&&Nat.beq cs.length sz then some (cs::l) else none
  | _,_=>none
section
variable (T:eS) (C:FuncId->List AV->AV->Prop) (bx:List (Nat×List AV)) (e:Operand->AV)
def gG (ty:TypeId):Op->(AV->Prop)->Prop
 | .move x,K | .assign x,K=>K (e x)
 | .pick c a b,K=>match e c with
  | .bool t=>bif t then K (e a) else K (e b)
  | _=>False
 | .binOp op t x y _,K=>yj T op t (e x) (e y) K
 | .unOp op _ x,K=>Zf op (e x) K
 | .load t x,K=>match get T t with
  | none=>False
  | some i=>match e x with
   | .loc d off=>match get bx d with
    | some cs=>match eO i (cs.drop off) with | some v=>K v | none=>False
    | none=>False
   | .ref cs=>match eO i cs with | some v=>K v | none=>False
   | .pin _ _ _ cs=>match eO i cs with | some v=>K v | none=>False
   | _=>False
 | .nilCheck x,K=>match e x with
  | .loc d off=>K (.loc d off)
  | .ref cs=>K (.ref cs)
  | .pin k b off cs=>K (.pin k b off cs)
  | _=>False
 | .fieldAddr t x f,K=>match get T t with
  | none=>False
  | some i=>bif Nat.beq i.kind 1 then match qj i.flds f with
   | none=>False
   | some (off,ft)=>match get T ft with
    | none=>False
    | some j=>bif Nat.beq j.size 0 then False else match e x with
     | .loc d o=>K (.loc d (o+off))
     | .ref cs=>K (.ref (cs.drop off))
     | .pin k b o cs=>K (.pin k b (o+off) (cs.drop off))
     | _=>False
   else False
 | .field t x f,K=>match get T t with
  | none=>False
  | some i=>bif Nat.beq i.kind 1 then match qj i.flds f with
   | none=>False
   | some (off,ft)=>match get T ft with
    | none=>False
    | some j=>match e x with
     | .agg cs=>bif Nat.ble (off+j.size) cs.length then match eO j (cs.drop off) with | some v=>K v | none=>False else False
     | _=>False
   else False
 | .indexAddr t x n,K=>match get T t with
  | none=>False
  | some i=>match get T i.elem with
   | none=>False
   | some j=>match e n with
    | .int _ n=>match e x with
     | .sl _ sz xs=>bif Nat.beq i.kind 3 then szOK j.size sz xs (0<=n/\∃ cs,xs[n.toNat]?=some cs/\K (.ref cs)) else False
     | .loc d off=>bif Nat.beq i.kind 2 then 0<=n/\n<i.arr/\K (.loc d (off+n.toNat*j.size)) else False
     | .ref cs=>bif Nat.beq i.kind 2 then 0<=n/\n<i.arr/\K (.ref (cs.drop (n.toNat*j.size))) else False
     | _=>False
    | _=>False
 | .index t x n,K=>match get T t with
  | none=>False
  | some i=>match get T i.elem with
   | none=>False
   | some j=>match e n,e x with
    | .int _ n,.agg cs=>bif Nat.beq i.kind 2 then 0<=n/\n<i.arr/\n.toNat*j.size+j.size<=cs.length/\(match eO j (cs.drop (n.toNat*j.size)) with | some v=>K v | none=>False) else False
    | _,_=>False
 | .sliceToArrayPointer t x,K=>match get T t with
  | none=>False
  | some i=>match e x with
   | .sl _ _ xs=>bif Nat.beq i.kind 2 then (0<xs.length/\i.arr<=xs.length)/\K (.ref xs.flatten) else False
   | _=>False
 | .slice t x lo hi q,K=>match get T t with
  | none=>False
  | some i=>match get T i.elem with
   | none=>False
   | some j=>match e x with
    | .sl _ sz xs=>bif Nat.beq i.kind 3 then szOK j.size sz xs (
      jU (lo.map e) 0 fun l=>jU (hi.map e) xs.length fun h=>
       match q.map e with
       | none=>l<=h/\h<=xs.length/\K (.sl .no sz ((xs.take h).drop l))
       | some (.int _ m)=>bif hi.isSome then l<=h/\h<=xs.length/\m=h/\K (.sl .full sz ((xs.take h).drop l)) else False
       | some _=>False) else False
    | _=>False
 | .extract x n,K=>match e x with
  | .tup vs=>match qj vs n with | some v=>K v | none=>False
  | _=>False
 | .build t parts,K=>match get T t with
  | none=>False
  | some i=>match i.zero with
   | .agg p=>bif Nat.beq i.kind 1&&i.flds.all (Td T) then
     ID (fun f=>match qj i.flds f with | some (off,ft)=>(match get T ft with | some j=>some (off,j.size) | none=>none) | none=>none) p (parts.toList.map fun (j,x)=>(j,e x)) fun cs=>bif cs.all (fun c=>c.isCell) then K (.agg cs) else False
    else bif Nat.beq i.kind 2 then match get T i.elem with
     | none=>False
     | some k=>ID (fun n=>some (n*k.size,k.size)) p (parts.toList.map fun (j,x)=>(j,e x)) fun cs=>bif cs.all (fun c=>c.isCell) then K (.agg cs) else False
    else False
   | _=>False
 | .buildSlice t n parts,K=>match get T t with
  | none=>False
  | some i=>match get T i.elem with
   | none=>False
   | some j=>bif Nat.beq i.kind 3&&Nat.beq parts.toList.length n&&Nat.ble (n*j.size) 100000 then
     match kF e parts.toList 0 j.size,j.zero.cells? with
     | some xs,some _=>WE xs fun xs=>K (.sl .full j.size xs)
     | _,_=>False
    else False
 | .convert src dst x,K=>match get T src,get T dst with
  | some _,some i=>match e x with
   | .int k n=>bif Nat.beq i.kind 4 then K (.int i.ik (i.ik.wrap n)) else False
   | _=>False
  | _,_=>False
 | .call c,K=>match c.callee with
  | .value f=>match e f with
   | .fn g=>∃ r,C g (c.args.toList.map fun x=>(e x).pub) r/\K r
   | .clo g cap=>∃ r,C g ((c.args.toList.map fun x=>(e x).pub)++cap) r/\K r
   | _=>False
  | .builtin .len=>match c.args.toList,c.argTypes.toList with
   | [x],[t]=>match get T t with
    | none=>False
    | some i=>match e x with
     | .sl _ _ xs=>bif Nat.beq i.kind 3 then K (.int .i64 xs.length) else False
     | _=>bif Nat.beq i.kind 2 then K (.int .i64 i.arr) else False
   | _,_=>False
  | .builtin .max=>match c.args.toList.map e with
   | .int k x::r=>match mn true k x r with | some z=>K (.int k z) | none=>False
   | _=>False
  | .builtin .min=>match c.args.toList.map e with
   | .int k x::r=>match mn false k x r with | some z=>K (.int k z) | none=>False
   | _=>False
  | _=>False
 | _,_=>False
end
def AV.unloc (d:Nat):AV->AV
 | .loc a o=>bif Nat.beq d a then .junk else .loc a o
 | x=>x
def unloc (d:Nat) (t:List (Nat×AV)):List (Nat×AV):=iX (AV.unloc d) t
def AV.frz (d:Nat) (cs:List AV):AV->AV
 | .loc a o=>bif Nat.beq d a then .ref (cs.drop o) else .loc a o
 | x=>x
def St.frz (d:Nat) (cs:List AV) (s:St):St:=⟨iX (AV.frz d cs) s.t,(d,[])::s.b⟩
def Bd:List Operand->St->(St->List AV->Prop)->Prop
 | [],s,K=>K s []
 | x::r,s,K=>match ev s x with
  | .loc d 0=>match get s.b d with
   | some (c::cs)=>Bd r (s.frz d ((c::cs).map AV.pub1)) fun s l=>K s (.ref ((c::cs).map AV.pub1)::l)
   | _=>False
  | v=>bif v.isCell then Bd r s fun s l=>K s (v.pub1::l) else False
def nu (d j:Nat):Nat:=1000000+1000*d+j
def fh (d:Nat):Nat->List AV->List AV
 | _,[]=>[]
 | j,.sl .full 0 []::r => .sl (.id (nu d j)) 0 []::fh d (j+1) r
 | j,c::r=>c::fh d (j+1) r
def o2 (d:Nat):Nat->List AV->List Nat
 | _,[]=>[]
 | j,.sl .full 0 []::r=>nu d j::o2 d (j+1) r
 | j,_::r=>o2 d (j+1) r
def St.demMany (s:St):List Nat->St
 | []=>s
 | k::r=>(s.dem k).demMany r
def nP (j:TI):Bool:=match j.zero.cells? with | some zs=>Nat.beq zs.length j.size | none=>false
def H5 (o:Own) (size sz:Nat):Bool:=match o with | .id _=>Nat.beq size sz||Nat.beq sz 0 | _=>true
def gK (n bytes:Nat):Prop:=n*bytes<=70368744177664
def CY (bx:List (Nat×List AV)) (d off:Nat) (vs:List AV):Option (List (Nat×List AV)):=
 match get bx d with
 | none=>none
 | some cs=>bif Nat.ble (off+vs.length) cs.length&&Nat.blt 0 vs.length then some ((d,tZ cs off vs)::bx) else none
section
variable (T:eS) (C:FuncId->List AV->AV->Prop)
def fx (s:St) (dst:Option Nat) (v:AV) (K:St->Prop):Prop:=match s,dst with
 | ⟨t,b⟩,some d=>K ⟨(d,v)::t,b⟩
 | s,none=>K s
def ng (s:St) (dst:Option Nat) (ty:TypeId) (op:Op) (K:St->Prop):Prop:=
 match op with
 | .box t x=>match dst,get T t,(ev s x).cells? with
  | some d,some i,some cs=>bif Nat.beq cs.length i.size&&cs.all (fun c=>c.isCell) then K ⟨(d,.loc d 0)::(unloc d s.t),(d,cs)::s.b⟩ else False
  | _,_,_=>False
 | .alloc t=>match dst,get T t with
  | some d,some i=>match i.zero.cells? with
   | some cs=>bif Nat.beq cs.length i.size&&cs.all (fun c=>c.isCell) then match (s.demMany (o2 d 0 cs)) with
     | ⟨t,b⟩=>K ⟨(d,.loc d 0)::unloc d t,(d,fh d 0 cs)::b⟩ else False
   | none=>False
  | _,_=>False
 | .store t a x=>match dst,get T t,ev s a,(ev s x).cells? with
  | none,some i,.loc d off,some cs=>bif Nat.beq cs.length i.size&&cs.all (fun c=>c.isCell) then
    match CY s.b d off cs with
    | some b=>K { s with b:=b }
    | none=>False
   else False
  | _,_,_,_=>False
 | .makeFunc (.func f) first captured=>bif first.toList.isEmpty then Bd captured.toList s fun s l=>match s,dst with
   | ⟨t,b⟩,some d=>K ⟨(d,.clo f l)::t,b⟩
   | s,none=>K s
  else False
 | .assign (.const (.slice none 0 0)) | .move (.const (.slice none 0 0))=>match dst,get T ty with
  | some d,some i=>match get T i.elem with
   | some j=>bif Nat.beq i.kind 3 then match s.dem d with | ⟨t,b⟩=>K ⟨(d,.sl (.id d) j.size [])::t,b⟩ else False
   | none=>False
  | _,_=>False
 | .makeSlice t l c=>match dst,get T t with
  | some d,some i=>match get T i.elem with
   | some j=>match ev s l,ev s c with
    | .int _ l,.int _ c=>match j.zero.cells? with
     | some n=>bif Nat.beq i.kind 3&&Nat.beq n.length j.size&&n.all (fun c=>c.isCell)&&Nat.blt 0 j.size then
       0<=l/\l<=c/\gK c.toNat j.bytes/\c<=4611686018427387904/\match s.dem d with | ⟨t,b⟩=>K ⟨(d,.sl (.id d) j.size (List.replicate l.toNat n))::t,b⟩ else False
     | none=>False
    | _,_=>False
   | none=>False
  | _,_=>False
 | .call { callee := .builtin .append,args:=args,argTypes:=q }=>match args.toList,q.toList,dst with
  | [x,y],[t,p],some d=>match get T t with
   | some i=>match get T i.elem with
    | some j=>match ev s x,ev s y with
     | .sl o sz xs,.sl _ m h=>bif Nat.beq i.kind 3&&Nat.beq t p&&nP j&&Nat.blt 0 j.size&&H5 o j.size sz then szOK j.size sz xs (szOK j.size m h (gK (xs.length+h.length) j.bytes/\xs.length+h.length<=4611686018427387904 /\
       match o with
       | .full=>bif MO xs h then match s.dem d with | ⟨t,b⟩=>K ⟨(d,.sl (.id d) j.size (xs++h))::t,b⟩ else bif s7 h then False else match s with | ⟨t,b⟩=>K ⟨(d,.sl .full sz xs)::t,b⟩
       | .id k=>match s.dem k with | ⟨t,b⟩=>K ⟨(d,.sl (.id k) j.size (xs++h))::t,b⟩
       | .no=>False)) else False
     | _,_=>False
    | none=>False
   | none=>False
  | _,_,_=>False
 | op=>gG T C s.b (ev s) ty op fun v=>v.go fun v=>fx s dst v K
end
def xk (k:Nat):Nat:=2000000000+k
def lo (k:Nat):Nat:=bif Nat.blt k 5000000 then 0 else k % 1000
def OD:Qw->Bool
 | .arr | .row _ _=>true
 | _=>false
def iH (s:St) (k:Nat):Option (Nat×List (List AV)):=match get s.t (xk k) with
 | some (.me g k' sz xs)=>bif OD g&&(Nat.beq k' k&&Nat.beq (lo k) 0) then some (sz,xs) else none
 | _=>none
def y6 (s:St) (k:Nat):Option (Nat×Nat):=match get s.t (xk k) with
 | some (.me (.row b cap) _ _ _)=>some (b,cap)
 | _=>none
def rowK (s:St) (k sz:Nat) (xs:List (List AV)) (K:AV->Prop):Prop:=match y6 s k with
 | some (b,cap)=>K (.me (.row b cap) k sz xs)
 | none=>K (.me .arr k sz xs)
def iD:Qw->Bool
 | .arr | .ents | .box | .row _ _=>true
 | _=>false
def zd (s:St) (k:Nat):Option (Nat×List AV):=match get s.t (xk k) with
 | some (.me .box k' b [own])=>bif Nat.beq k' k then some (b,own) else none
 | _=>none
def qa (k:Nat):List (Nat×AV)->Bool
 | []=>true
 |(d,.me g k' _ _)::r=>(!iD g||(Nat.beq d (xk k) || !Nat.beq k k'))&&qa k r
 | _::r=>qa k r
def AV.unme (k:Nat):AV->AV
 | .me g k' n xs=>bif Nat.beq k k' then .junk else .me g k' n xs
 | x=>x
def vF (k sz:Nat) (xs:List (List AV)):AV->AV
 | .me g k' n a=>bif Nat.beq k k' then (match g with | .sl => .sl .no sz xs | _ => .junk) else .me g k' n a
 | x=>x
def kA (s:St) (l:List Operand) (K:St->Prop):Prop:=match l with
 | []=>K s
 | x::r=>match ev s x with
  | .me .sl k _ _=>match iH s k with
   | some (sz,xs)=>(⟨iX (vF k sz xs) s.t,s.b⟩:St).go fun s=>kA s r K
   | none=>False
  | _=>kA s r K
section
variable (T:eS) (C:FuncId->List AV->AV->Prop)
def iR (s:St) (dst:Option Nat) (t:TypeId) (k len:Nat) (i:Int) (K:St->Prop):Prop:=match get T t with
 | none=>False
 | some a=>match get T a.elem with
  | none=>False
  | some j=>match iH s k with
   | none=>False
   | some (sz,_)=>bif Nat.beq a.kind 3&&Nat.beq j.size sz then 0<=i/\i<len/\fx s dst (.me (.ptr sz 0) k i.toNat []) K else False
def oQ (s:St) (dst:Option Nat) (t:TypeId) (f sz j k i:Nat) (K:St->Prop):Prop:=match get T t with
 | none=>False
 | some a=>bif Nat.beq a.kind 1 then match qj a.flds f with
   | none=>False
   | some (off,ft)=>match get T ft with
    | none=>False
    | some u=>bif Nat.beq u.size 0 then False else fx s dst (.me (.ptr sz (j+off)) k i []) K
  else False
def NL (s:St) (dst:Option Nat) (t:TypeId) (sz j k i:Nat) (K:St->Prop):Prop:=match get T t with
 | none=>False
 | some b=>match iH s k with
  | none=>False
  | some (a,xs)=>bif Nat.beq a sz then ∃ r,xs[i]?=some r/\match eO b (r.drop j) with | some v=>v.go fun v=>fx s dst v K | none=>False else False
def yu (s:St) (dst:Option Nat) (t:TypeId) (sz j k i:Nat) (v:AV) (K:St->Prop):Prop:=match dst,get T t,v.cells? with
 | none,some d,some cs=>match iH s k with
  | none=>False
  | some (a,xs)=>bif Nat.beq a sz&&(Nat.beq cs.length d.size&&(cs.all (fun c=>c.isCell)&&(Nat.ble (j+cs.length) sz&&Nat.blt 0 cs.length))) then
    ∃ r,xs[i]?=some r/\rowK s k sz (dD xs i (tZ r j (cs.map AV.pub1))) (fun v=>K ⟨(xk k,v)::s.t,s.b⟩) else False
 | _,_,_=>False
def LA (s:St) (dst:Option Nat) (t:TypeId) (sz j k i:Nat) (v:AV) (K:St->Prop):Prop:=bif qa k s.t then yu T s dst t sz j k i v K else False
def CQ (s:St) (dst:Option Nat) (h:List TypeId) (y:AV) (K:St->Prop):Prop:=match dst,h with
 | some d,[t,i]=>match get T t with
  | none=>False
  | some f=>match get T f.elem with
   | none=>False
   | some j=>match y with
    | .sl _ c a=>bif Nat.beq f.kind 3&&(Nat.beq t i&&(nP j&&Nat.blt 0 j.size)) then szOK j.size c a (0<a.length/\gK a.length j.bytes/\a.length<=4611686018427387904 /\
      K ⟨(d,.me .sl d a.length [])::(xk d,.me .arr d j.size a)::iX (AV.unme d) s.t,s.b⟩) else False
    | _=>False
 | _,_=>False
def yK (s:St) (dst:Option Nat) (mt:TypeId) (b:Nat) (c d:AV) (K:Nat->AV->Prop):Prop:=match dst,get T mt with
 | none,some a=>match a.flds with
  | [(_,f)]=>match get T f with
   | some i=>bif Nat.beq a.kind 9 then match ny i with
     | some (sk,n)=>∃ (k:Nat) (l:List (List Int×AV)) (key:List Int),(get s.t (xk k)=some (.me .ents k b (f8 sk l))/\c=keyE sk key/\key.length=n/\∀ p∈l,p.1.length=n) /\
       d.pub.go1 fun v=>K k (.me .ents k b (f8 sk (jM key v l)))
     | none=>False
    else False
   | none=>False
  | _=>False
 | _,_=>False
def n9 (s:St) (mt:TypeId) (b:Nat) (c:AV) (ok:Bool) (K:AV->Prop):Prop:=match get T mt with
 | some a=>match a.flds with
  | [(_,d)]=>match get T d,get T a.elem with
   | some i,some j=>bif Nat.beq a.kind 9&&j.zero.isCell then match ny i with
     | some (sk,n)=>∃ (k:Nat) (l:List (List Int×AV)) (key:List Int) (g:Option AV),(get s.t (xk k)=some (.me .ents k b (f8 sk l))/\c=keyE sk key/\key.length=n/\(∀ p∈l,p.1.length=n)/\nj key l=g)/\K (XO ok j.zero g)
     | none=>False
    else False
   | _,_=>False
  | _=>False
 | none=>False
def sC (mt:TypeId) (xs:List (List AV)) (b:AV) (ok:Bool) (K:AV->Prop):Prop:=match get T mt with
 | some a=>match a.flds with
  | [(_,c)]=>match get T c,get T a.elem with
   | some i,some j=>bif Nat.beq a.kind 9&&j.zero.isCell then match ny i with
     | some (sk,n)=>∃ (l:List (List Int×AV)) (key:List Int) (g:Option AV),(xs=f8 sk l/\b=keyE sk key/\key.length=n/\(∀ p∈l,p.1.length=n)/\nj key l=g)/\K (XO ok j.zero g)
     | none=>False
    else False
   | _,_=>False
  | _=>False
 | none=>False
def qG (s:St) (t:TypeId) (k b off:Nat) (cs:List AV) (K:AV->Prop):Prop:=match get T t with
 | none=>False
 | some a=>match eO a cs with
  | some v=>K v
  | none=>match zd s k with
   | some (c,own)=>bif Nat.ble (lo k) off then (match eO a (own.drop (off - lo k)) with | some v=>c=b/\K v | none=>False) else False
   | none=>False
def sY (s:St) (dst:Option Nat) (t:TypeId) (k b off:Nat) (v:AV) (K:Nat->AV->Prop):Prop:=match dst,get T t,v.cells? with
 | none,some f,some cs=>match zd s k with
  | none=>False
  | some (d,own)=>bif Nat.beq cs.length f.size&&(cs.all (fun c=>c.isCell)&&(Nat.ble (lo k) off&&(Nat.ble (off - lo k+cs.length) own.length&&Nat.blt 0 cs.length))) then d=b/\Mt (tZ own (off - lo k) cs) fun a=>K k (.me .box k d [a]) else False
 | _,_,_=>False
def CP (s:St) (dst:Option Nat) (t:TypeId) (k n:Nat) (lo hi a:Option AV) (K:St->Prop):Prop:=match get T t with
 | none=>False
 | some i=>match get T i.elem with
  | none=>False
  | some j=>match iH s k with
   | none=>False
   | some (sz,_)=>bif Nat.beq i.kind 3&&(Nat.beq j.size sz&&a.isNone) then jU lo 0 fun l=>jU hi n fun h=>l<=h/\h<=n/\fx s dst (.me (.sub sz l) k (h - l) []) K else False
def VO (s:St) (dst:Option Nat) (n:List TypeId) (sz k h:Nat) (y:AV) (K:St->Prop):Prop:=match dst,n with
 | some d,[t,f]=>match get T t with
  | none=>False
  | some i=>match get T i.elem with
   | none=>False
   | some j=>match y with
    | .me (.sub c l) k' m _=>match iH s k with
     | none=>False
     | some (a,xs)=>bif Nat.beq i.kind 3&&(Nat.beq t f&&(Nat.beq sz a&&(Nat.beq c a&&(Nat.beq k k'&&(Nat.beq j.size a&&Nat.blt 0 a))))) then
       h+m<=xs.length/\K ⟨(d,.me .sl k (h+m) [])::(xk k,.me .arr k a (xs.take h++(xs.drop l).take m))::iX (AV.unme k) s.t,s.b⟩ else False
    | _=>False
 | _,_=>False
def VP (s:St) (dst:Option Nat) (h:List TypeId) (k n:Nat) (y:AV) (K:St->Prop):Prop:=match dst,h with
 | some d,[t,f]=>match get T t with
  | none=>False
  | some i=>match get T i.elem with
   | none=>False
   | some j=>match iH s k with
    | none=>False
    | some (sz,xs)=>match y with
     | .sl _ c a=>bif Nat.beq i.kind 3&&(Nat.beq t f&&(nP j&&(Nat.blt 0 j.size&&Nat.beq j.size sz))) then szOK j.size c a (0<a.length/\gK (xs.length+a.length) j.bytes/\xs.length+a.length<=4611686018427387904 /\
       K ⟨(d,.me .sl k (n+a.length) [])::(xk k,.me .arr k sz (xs++a))::iX (AV.unme k) s.t,s.b⟩) else False
     | _=>False
 | _,_=>False
def Wo (s:St) (dst:Option Nat) (ty:TypeId) (op:Op) (K:St->Prop):Prop:=match op with
 | .indexAddr t x n=>match ev s x,ev s n with
  | .me .sl k len _,.int _ i=>iR T s dst t k len i K
  | .lit (.slice _ len cap),.int _ i=>∃ k b sz xs,(ev s x = .lit (.slice (some ⟨b,0,none⟩) len cap)/\get s.t (xk k)=some (.me (.row b cap) k sz xs)/\xs.length=len)/\iR T s dst t k len i K
  | _,_=>ng T C s dst ty op K
 | .fieldAddr t x f=>match ev s x with
  | .me (.ptr sz j) k i _=>oQ T s dst t f sz j k i K
  | _=>ng T C s dst ty op K
 | .load t x=>match ev s x with
  | .me (.ptr sz j) k i _=>NL T s dst t sz j k i K
  | .pin k b off cs=>qG T s t k b off cs fun v=>v.go fun v=>fx s dst v K
  | _=>ng T C s dst ty op K
 | .lookup t m k ok=>match ev s m with
  | .lit (.map (some b))=>n9 T s t b (ev s k) ok fun v=>v.go fun v=>fx s dst v K
  | .mapv xs=>sC T t xs (ev s k) ok fun v=>v.go fun v=>fx s dst v K
  | _=>False
 | .store t a x=>match ev s a with
  | .me (.ptr sz j) k i _=>LA T s dst t sz j k i (ev s x) K
  | .pin _ _ _ _=>kA s [x] fun s=>(match ev s a with
   | .pin k b off _=>sY T s dst t k b off (ev s x) fun k v=>qa k s.t=true/\K ⟨(xk k,v)::s.t,s.b⟩
   | _=>False)
  | _=>kA s [x] fun s=>ng T C s dst ty op K
 | .move _ | .assign _=>ng T C s dst ty op K
 | .makeMap _ none=>match dst with
  | some d=>∀ b,K ⟨(d,.lit (.map (some b)))::(xk d,.me .ents d b [])::iX (AV.unme d) s.t,s.b⟩
  | none=>False
 | .mapUpdate t m k x=>match ev s m with
  | .lit (.map (some b))=>yK T s dst t b (ev s k) (ev s x) fun k v=>qa k s.t=true/\K ⟨(xk k,v)::s.t,s.b⟩
  | _=>False
 | .insert t m k x=>match ev s m with
  | .lit (.map (some b))=>yK T s dst t b (ev s k) (ev s x) fun k v=>qa k s.t=true/\K ⟨(xk k,v)::s.t,s.b⟩
  | _=>False
 | .call { callee := .builtin .len,args:=args,argTypes:=c }=>match args.toList,c.toList with
  | [x],[t]=>match ev s x with
   | .me .sl _ n _=>match get T t with
    | some i=>bif Nat.beq i.kind 3 then fx s dst (.int .i64 n) K else False
    | none=>False
   | .lit (.slice _ n _)=>match get T t with
    | some i=>bif Nat.beq i.kind 3 then fx s dst (.int .i64 n) K else False
    | none=>False
   | _=>ng T C s dst ty op K
  | _,_=>ng T C s dst ty op K
 | .call { callee := .builtin .append,args:=args,argTypes:=c }=>match args.toList with
  | [x,y]=>kA s [y] fun s=>match ev s x with
   | .sl o _ xs=>match o with
    | .full=>ng T C s dst ty op K\/xs=[]/\CQ T s dst c.toList (ev s y) K
    | _=>ng T C s dst ty op K
   | .me g k n _=>match g with
    | .sub sz off=>bif Nat.beq off 0 then VO T s dst c.toList sz k n (ev s y) K else ng T C s dst ty op K
    | .sl=>VP T s dst c.toList k n (ev s y) K
    | _=>ng T C s dst ty op K
   | _=>ng T C s dst ty op K
  | _=>ng T C s dst ty op K
 | .slice t x lo hi h=>match ev s x with
  | .me .sl k n _=>(kA s [x] fun s=>ng T C s dst ty op K)\/CP T s dst t k n (lo.map (ev s)) (hi.map (ev s)) (h.map (ev s)) K
  | _=>kA s op.operands.toList fun s=>ng T C s dst ty op K
 | op=>kA s op.operands.toList fun s=>ng T C s dst ty op K
end
def dj:List Nat->Nat->Bool
 | [],_=>false
 | d::r,k=>bif Nat.beq d k then true else dj r k
def Pr:List Nat->Nat->List Nat
 | [],_=>[]
 | d::r,k=>bif Nat.beq d k then r else d::Pr r k
def gL (guards:List Nat) (dst:Option Nat) (s:St) (K:St->Prop):Prop:=
 match dst with
 | some d=>bif dj guards d then match s with
   | ⟨t,b⟩=>match get t d with
    | some (.bool v)=>(v=true->K ⟨(d,.bool true)::t,b⟩)/\(v=false->K ⟨(d,.bool false)::t,b⟩)
    | _=>K ⟨t,b⟩
  else Yx d s K
 | none=>goB s K
def jt (ops:List Oper) (j:Nat):Option Nat:=match qj ops j with | some o=>o.dst | none=>none
def dw (ops:List Oper):List Oper->List Nat
 | []=>[]
 | o::r=>match o.guard with
  | some (j,_)=>match jt ops j with | some d=>d::dw ops r | none=>dw ops r
  | none=>dw ops r
def j3 (all:List Oper) (s:St) (o:Oper):Nat:=
 match o.guard with
 | none=>0
 | some (j,want)=>match jt all j with
  | none=>2
  | some d=>match get s.t d with
   | some (.bool b)=>bif b==want then 0 else 1
   | some .undef=>1
   | _=>2
def yx (guards:List Nat) (o:Oper):Bool:=match o.op,o.dst with
 | .assign (.const (.slice none 0 0)),some d=>dj guards (1000000000+d)
 | _,_=>false
def zO (guards:List Nat) (o:Oper):Bool:=match o.op,o.dst with
 | .call _,some d=>dj guards (3000000000+d)
 | _,_=>false
def AV.pubE:AV->AV
 | .me g k n xs => .me g k n xs
 | x=>x.pub
def yg:List AV->List Nat
 | []=>[]
 | .sl (.id k) _ _::r=>k::yg r
 | _::r=>yg r
def WB:AV->List Nat
 | .me .box _ _ [own]=>yg own
 | _=>[]
def sg:List (Nat×AV)->List Nat
 | []=>[]
 |(_,v)::r=>WB v++sg r
def ku:List (Nat×AV)->List Nat
 | []=>[]
 |(k,_)::r=>k::ku r
def gI (s:St):List Nat->Option (List (Nat×AV))
 | []=>some []
 | k::r=>match get s.t (xk k),gI s r with
  | some (.me g j n xs),some l=>bif Nat.beq j k&&iD g then some ((k,.me g j n xs)::l) else none
  | _,_=>none
def BK:List (Nat×AV)->List (Nat×AV)
 | []=>[]
 |(k,v)::r=>(xk k,v)::BK r
def AV.isRefX:AV->Bool
 | .me .sl _ _ _=>true
 | .me (.ptr _ _) _ _ _=>true
 | _=>false
def AV.unmeMany (x:AV):List Nat->AV
 | []=>x
 | k::r=>(bif Nat.ble 7000000 k&&x.isRefX then x else x.unme k).unmeMany r
def St.unmeMany (s:St) (a:List Nat):St:=⟨iX (fun x=>x.unmeMany a) s.t,s.b⟩
def abm (l:List Nat):Bool:=l.all fun k=>Nat.ble 5000000 k
def XL (N:List Nat):AV->Bool
 | .me .box _ _ _=>false
 | .me _ k _ _=>dj N k
 | _=>true
def Qn (N I:List Nat) (L:List (Nat×AV)) (args:List AV):Bool:=(ku L).all (dj N)&&((sg L).all (dj I)&&(abm I&&args.all (XL N)))
abbrev vC:=FuncId->List Nat->List Nat->List AV->List (Nat×AV)->AV->List (Nat×AV)->Prop
def Cu (E:vC) (s:St) (o:Oper) (K:List Nat->List Nat->List (Nat×AV)->AV->List (Nat×AV)->Prop):Prop:=match o.op with
 | .call call=>match call.callee with
  | .value f=>match ev s f with
   | .fn g=>∃ N I L r a,(gI s (ku L)=some L/\Qn N I L (call.args.toList.map (ev s))=true/\E g N I ((call.args.toList.map fun x=>(ev s x).pubE)++[]) L r a)/\K N I L r a
   | .clo g cap=>∃ N I L r a,(gI s (ku L)=some L/\Qn N I L (call.args.toList.map (ev s))=true/\E g N I ((call.args.toList.map fun x=>(ev s x).pubE)++cap) L r a)/\K N I L r a
   | _=>False
  | _=>False
 | _=>False
section
variable (T:eS) (C:FuncId->List AV->AV->Prop) (E:vC)
def XN (guards:List Nat) (o:Oper):Bool:=match o.op,o.dst with
 | .makeSlice _ _ _,some d=>dj guards (5000000000+d)
 | _,_=>false
def Sf (s:St) (dst:Option Nat) (op:Op) (K:St->Prop):Prop:=match op,dst with
 | .makeSlice t l c,some d=>match get T t with
  | some i=>match get T i.elem with
   | some j=>match ev s l,ev s c,j.zero.cells? with
    | .int _ l,.int _ c,some a=>bif Nat.beq i.kind 3&&(Nat.beq a.length j.size&&(a.all (fun c=>c.isCell)&&Nat.blt 0 j.size)) then
      0<=l/\l<=c/\gK c.toNat j.bytes/\c<=4611686018427387904/\K ⟨(d,.me .sl d l.toNat [])::(xk d,.me .arr d j.size (List.replicate l.toNat a))::iX (AV.unme d) s.t,s.b⟩ else False
    | _,_,_=>False
   | none=>False
  | none=>False
 | _,_=>False
def Pe (k b n cap:Nat):AV->AV
 | .me g k' a xs=>bif Nat.beq k k' then (match g with | .sl => .lit (.slice (some ⟨b,0,none⟩) n cap) | _ => .junk) else .me g k' a xs
 | x=>x
def Yq (s:St) (d:Nat) (K:St->Prop):Prop:=match get s.t d with
 | some (.me .sl k n _)=>match get s.t (xk k) with
  | some (.me .arr k' sz xs)=>bif Nat.beq k' k&&Nat.beq (lo k) 0 then ∀ b cap,(⟨(xk k,.me (.row b cap) k sz xs)::iX (Pe k b n cap) s.t,s.b⟩:St).go K else False
  | _=>False
 | _=>False
def ZL (guards:List Nat) (o:Oper):Option Nat:=match o.dst with
 | some d=>bif dj guards (7000000000+d) then some d else none
 | none=>none
def Wp (guards:List Nat) (s:St) (o:Oper) (K:St->Prop):Prop:=
 bif yx guards o then fx s o.dst (.sl .full 0 []) K
 else bif zO guards o then Cu E s o fun N I _ r a=>match (s.demMany I).unmeMany N with | ⟨t,b⟩=>(⟨BK a++t,b⟩:St).go fun s=>r.go fun r=>fx s o.dst r fun s=>gL guards o.dst s K
 else bif XN guards o then Sf T s o.dst o.op fun s=>Dv o.op s fun s=>gL guards o.dst s K
 else Wo T C s o.dst o.type o.op fun s=>Dv o.op s fun s=>gL guards o.dst s K
def Hl (guards:List Nat) (s:St) (o:Oper) (K:St->Prop):Prop:=match ZL guards o with
 | some d=>Wp T C E guards s o fun s=>Yq s d K
 | none=>Wp T C E guards s o K
def lg (all:List Oper) (guards:List Nat):List Oper->St->(St->Prop)->Prop
 | [],s,K=>K s
 | o::rest,s,K=>match j3 all s o with
  | 0=>Hl T C E guards s o fun s=>lg all guards rest s K
  | 1=>fx s o.dst .undef fun s=>lg all guards rest s K
  | _=>False
end
def zy:List Nat->List (Nat×AV)->List (Nat×AV)
 | _,[]=>[]
 | keep,(d,v)::r=>bif dj keep d then (d,v)::zy (Pr keep d) r else zy keep r
def zA:List Nat->List (Nat×List AV)->List (Nat×List AV)
 | _,[]=>[]
 | seen,(d,v)::r=>bif dj seen d then zA seen r else (d,v)::zA (d::seen) r
def Zl:List Nat->(List Nat->Prop)->Prop
 | [],K=>K []
 | d::r,K=>Zl r fun r=>K (d::r)
theorem Dt:∀ (l:List Nat) (K:List Nat->Prop),Zl l K=K l
 | [],_=>rfl
 | _::r,K=>by rw [Zl,Dt r]
def Sa:List Nat->List (Nat×AV)->List Nat
 | keep,[]=>keep
 | keep,(d,_)::r=>bif Nat.ble 2000000000 d && !dj keep d then Sa (d::keep) r else Sa keep r
def zx:List Nat->List (Nat×AV)->(List (Nat×AV)->Prop)->Prop
 | _,[],K=>K []
 | keep,(d,v)::r,K=>bif dj keep d then v.go1 fun v=>Zl (Pr keep d) fun keep=>zx keep r fun t=>K ((d,v)::t) else zx keep r K
def zz:List Nat->List (Nat×List AV)->(List (Nat×List AV)->Prop)->Prop
 | _,[],K=>K []
 | seen,(d,v)::r,K=>bif dj seen d then zz seen r K else zz (d::seen) r fun t=>K ((d,v)::t)
theorem wq:∀ (t:List (Nat×AV)) (keep:List Nat) (K:List (Nat×AV)->Prop),zx keep t K=K (zy keep t)
 | [],_,_=>rfl
 |(d,v)::r,keep,K=>by
  simp only [zx,zy]
  cases dj keep d with
  | true=>simp only [aR,oH,Dt]; rw [wq r]
  | false=>simp only [br]; rw [wq r]
theorem wr:∀ (t:List (Nat×List AV)) (seen:List Nat) (K:List (Nat×List AV)->Prop),zz seen t K=K (zA seen t)
 | [],_,_=>rfl
 |(d,v)::r,seen,K=>by
  simp only [zz,zA]
  cases dj seen d with
  | true=>simp only [aR]; rw [wr r]
  | false=>simp only [br]; rw [wr r]
def ga (keep:List Nat) (s:St) (K:St->Prop):Prop:=match s with
 | ⟨t,b⟩=>Zl (Sa keep t) fun keep=>zx keep t fun t=>zz [] b fun b=>K ⟨t,b⟩
open Go
structure dI where
 cells:Nat->Nat->Option Value
 maps:Nat->Option (Array MapEntry×Nat)
instance:CoeFun dI (fun _=>Nat->Nat->Option Value):=⟨dI.cells⟩
structure dI.sub (m:dI) (w:World):Prop where
 cell:∀ b o v,m b o=some v->w.cell? ⟨b,o,none⟩=some v
 map:∀ b x,m.maps b=some x->w.heap[b]?=some (.map x.1 x.2)
structure dI.le (m m':dI):Prop where
 cell:∀ b o v,m b o=some v->m' b o=some v
 map:∀ b x,m.maps b=some x->m'.maps b=some x
theorem dI.le.refl (m:dI):m.le m:=⟨fun _ _ _ h=>h,fun _ _ h=>h⟩
theorem dI.le.sub {m m':dI} {w} (h:m.le m') (k:m'.sub w):m.sub w:=⟨fun b o v g=>k.cell b o v (h.cell b o v g),fun b x g=>k.map b x (h.map b x g)⟩
theorem dI.le.trans {a b c:dI} (h:a.le b) (k:b.le c):a.le c:=⟨fun x y v g=>k.cell x y v (h.cell x y v g),fun x v g=>k.map x v (h.map x v g)⟩
def gf (P:Program):dI:=⟨fun b o=>match P.globals[b]? with | some g=>bif g.name == "math/bits.deBruijn64tab" then (Lib.deBruijn64tab[o]?).map fun n => .int .u8 n else none | none=>none,fun _=>none⟩
def ej (w:World) (b:Nat):Prop:=∃ c T,w.heap[b]?=some (.cells c T (0,0))
structure dI.News (m:dI) (B:Nat->Prop) (m':dI) (w:World):Prop where
 cell:∀ b o v,m' b o=some v->m b o=some v\/B b/\ej w b
 map:∀ b x,m'.maps b=some x->m.maps b=some x\/B b
def free (w0:World) (k:Nat):Prop:=w0.heap.size<=k\/w0.heap[k]?=some (.deferred none)
structure gN (w w':World):Prop where
 os:w'.os=w.os
 tape:w'.tape=w.tape
 output:w'.output=w.output
 size:w.heap.size<=w'.heap.size
 block:∀ k,¬ free w k->w'.heap[k]?=w.heap[k]?
theorem gN.step {w0 a b} (h:gN w0 a) (h1:b.os=a.os) (h2:b.tape=a.tape) (f:b.output=a.output) (d:a.heap.size<=b.heap.size) (e:∀ k,¬ free w0 k->b.heap[k]?=a.heap[k]?):gN w0 b:=⟨h1.trans h.os,h2.trans h.tape,f.trans h.output,bC h.size d,fun k c=>(e k c).trans (h.block k c)⟩
structure Vi (w0 a b:World):Prop where
 os:b.os=a.os
 tape:b.tape=a.tape
 output:b.output=a.output
 size:a.heap.size<=b.heap.size
 block:∀ k,¬ free w0 k->b.heap[k]?=a.heap[k]?
theorem gN.trans {w0 a b} (h:gN w0 a) (k:Vi w0 a b):gN w0 b:=h.step k.os k.tape k.output k.size k.block
theorem not_free {w0} {k} (h:¬ free w0 k):k<w0.heap.size:=pR fun a=>h (.inl a)
theorem j8 {w0} {k b} (h:¬ free w0 k) (a:free w0 b):k≠b:=fun e=>h (e ▸ a)
theorem Vi.of {w0 a b} {B} (h:RowKit.Below B a b) (c:w0.heap.size<=B):Vi w0 a b:=⟨h.os,h.tape,h.output,h.size,fun k d=>h.block k (dm (not_free d) c)⟩
theorem gN.alloc {w0 a} (h:gN w0 a) (b:w0.heap.size<=a.heap.size) (o):gN w0 (a.alloc o):=h.trans (.of ((RowKit.Below.refl _ a).alloc (ba _) o) b)
theorem gN.drew {w0 a} (h:gN w0 a):gN w0 a.drew:=h.trans ⟨rfl,rfl,rfl,ba _,fun _ _=>rfl⟩
theorem gN.refl (w):gN w w:=⟨rfl,rfl,rfl,ba _,fun _ _=>rfl⟩
theorem iJ {w0} {k} (h:w0.heap.size<=k):free w0 k := .inl h
def dI.with (m:dI) (f:Nat->Nat->Option Value):dI:=⟨f,m.maps⟩
def li (es:Array MapEntry) (clock:Nat):Prop:=(∀ (i:Nat) (e:MapEntry),es[i]?=some e->e.born<clock)/\(∀ (i j:Nat) (e f:MapEntry),es[i]?=some e->es[j]?=some f->e.born=f.born->i=j)/\∀ (i j:Nat) (e f:MapEntry),es[i]?=some e->es[j]?=some f->e.key=f.key->i=j
inductive RD (m:dI):AV->Value->Prop
 | junk (v:Value):RD m .junk v
 | undef:RD m .undef Go.undef
 | int (k:IntKind) (n:Int):RD m (.int k n) (.int k n)
 | bool (b:Bool):RD m (.bool b) (.bool b)
 | str (s:ByteArray):RD m (.str s) (.string s)
 | lit (v:Value) (h:v.oneCell'=true) (h2:v.cells=#[v]):RD m (.lit v) v
 | fn (f:FuncId):RD m (.fn f) (.func (.func f) #[] #[])
 | clo (f:FuncId) (cap:List AV) (vs:Array Value) (hl:cap.length=vs.size) (h:∀ (i:Nat) (x:AV) (v:Value),cap[i]?=some x->vs[i]?=some v->RD m x v):RD m (.clo f cap) (.func (.func f) #[] vs)
 | agg (cs:List AV) (vs:Array Value) (hl:cs.length=vs.size) (d:∀ x∈cs,x.isCell=true) (h:∀ (i:Nat) (x:AV) (v:Value),cs[i]?=some x->vs[i]?=some v->RD m x v):RD m (.agg cs) (.agg vs)
 | tup (cs:List AV) (vs:Array Value) (hl:cs.length=vs.size) (h:∀ (i:Nat) (x:AV) (v:Value),cs[i]?=some x->vs[i]?=some v->RD m x v):RD m (.tup cs) (.tuple vs)
 | sl (o:Own) (sz:Nat) (xs:List (List AV)) (base:Option Addr) (len cap:Nat) (r:∀ k,o≠.id k) (hf:o = .full->cap=len) (hl:xs.length=len) (d:len<=cap)
   (p:∀ x∈xs,x.length=sz) (a:∀ x∈xs,∀ c∈x,AV.isCell c=true) (b off:Nat) (l:0<len->base=some ⟨b,off,none⟩) (g:Nat->Nat->Value)
   (hm:∀ (i:Nat) (x:List AV) (j:Nat) (c:AV),xs[i]?=some x->x[j]?=some c->m b (off+i*sz+j)=some (g i j)) (h:∀ (i:Nat) (x:List AV) (j:Nat) (c:AV),xs[i]?=some x->x[j]?=some c->RD m c (g i j)):RD m (.sl o sz xs) (.slice base len cap)
 | ref (cs:List AV) (b off:Nat) (d:∀ x∈cs,x.isCell=true) (g:Nat->Value) (hm:∀ (i:Nat) (c:AV),cs[i]?=some c->m b (off+i)=some (g i)) (h:∀ (i:Nat) (c:AV),cs[i]?=some c->RD m c (g i)):RD m (.ref cs) (.pointer (some ⟨b,off,none⟩))
 | pin (k b off:Nat) (cs:List AV) (d:∀ x∈cs,x.isCell=true) (g:Nat->Value) (hm:∀ (i:Nat) (c:AV),cs[i]?=some c->m b (off+i)=some (g i)) (h:∀ (i:Nat) (c:AV),cs[i]?=some c->RD m c (g i)):RD m (.pin k b off cs) (.pointer (some ⟨b,off,none⟩))
 | mapv (xs:List (List AV)) (b:Nat) (es:Array MapEntry) (clock:Nat) (hm:m.maps b=some (es,clock)) (l:li es clock) (hl:xs.length=es.size) (h2:∀ x∈xs,x.length=2)
   (q:∀ (i:Nat) (x:List AV) (e:MapEntry) (k:AV),xs[i]?=some x->es[i]?=some e->x[0]?=some k->RD m k e.key) (hv:∀ (i:Nat) (x:List AV) (e:MapEntry) (k:AV),xs[i]?=some x->es[i]?=some e->x[1]?=some k->RD m k e.val):RD m (.mapv xs) (.map (some b))
theorem RD.mono {m m'} (hm:m.le m') {x} {v} (h:RD m x v):RD m' x v:=by
 induction h with
 | junk v=>exact .junk v
 | undef=>exact .undef
 | int k n=>exact .int k n
 | bool b=>exact .bool b
 | str s=>exact .str s
 | lit v h h2=>exact .lit v h h2
 | fn f=>exact .fn f
 | clo f cap vs hl _ a=>exact .clo f cap vs hl a
 | agg cs vs hl l _ a=>exact .agg cs vs hl l a
 | tup cs vs hl _ a=>exact .tup cs vs hl a
 | sl o sz xs base len cap u hf hl l r e b off p g d _ a=>exact .sl o sz xs base len cap u hf hl l r e b off p g (fun i x j c h1 h2=>hm.cell _ _ _ (d i x j c h1 h2)) a
 | ref cs b off l g d _ a=>exact .ref cs b off l g (fun i c h1=>hm.cell _ _ _ (d i c h1)) a
 | pin k b off cs l g d _ a=>exact .pin k b off cs l g (fun i c h1=>hm.cell _ _ _ (d i c h1)) a
 | mapv xs b es clock d p hl h2 _ _ t q=>exact .mapv xs b es clock (hm.map _ _ d) p hl h2 t q
theorem RD.one {m} {x} {v} (h:RD m x v) (a:x.isCell=true):v.oneCell'=true/\v.cells=#[v]:=by
 cases h <;> first | (simp [AV.isCell] at a; done) | exact ⟨rfl,rfl⟩ | exact ⟨by assumption,by assumption⟩
structure dE where
 ρ:Nat->Nat
 τ:Nat->Value
 σ:Nat->Nat
 m:dI
 x:Nat->Option (Nat×Obj)
 xn:Nat->Nat×Nat
def j5:Value->Bool
 | .slice _ len cap=>decide (len<cap)
 | _=>false
def RO (c:dE):AV->Value->Prop
 | .sl (.id k) sz xs,v=>v=c.τ k/\(j5 v=true->c.σ k=sz/\0<sz)/\RD c.m (.sl .no sz xs) v
 | x,v=>RD c.m x v
def RX (c:dE) (g:Qw) (k n:Nat) (xs:List (List AV)) (v:Value):Prop:=match g with
 | .sl=>∃ b cells T cap,c.x k=some (b,.cells cells T (0,0))/\v = .slice (some ⟨b,0,none⟩) n cap/\(n=(c.xn k).1/\cap=(c.xn k).2)/\n<=cap
 | .ptr sz j=>∃ b cells T,c.x k=some (b,.cells cells T (0,0))/\v = .pointer (some ⟨b,n*sz+j,none⟩)
 | .arr=>∃ b cells T,c.x k=some (b,.cells cells T (0,0))/\(xs.length=(c.xn k).1/\(c.xn k).2*n<=cells.size)/\xs.length*n<=cells.size/\(∀ r∈xs,r.length=n/\∀ y∈r,y.isCell=true) /\
   ∀ (i:Nat) (r:List AV) (j:Nat) (y:AV),xs[i]?=some r->r[j]?=some y->∃ u,cells[i*n+j]?=some u/\RD c.m y u
 | .row b cap=>∃ cells T,c.x k=some (b,.cells cells T (0,0))/\(xs.length=(c.xn k).1/\cap=(c.xn k).2/\xs.length<=cap/\cap*n<=cells.size)/\xs.length*n<=cells.size/\(∀ r∈xs,r.length=n/\∀ y∈r,y.isCell=true) /\
   ∀ (i:Nat) (r:List AV) (j:Nat) (y:AV),xs[i]?=some r->r[j]?=some y->∃ u,cells[i*n+j]?=some u/\RD c.m y u
 | .sub sz l=>∃ b cells T off cap,c.x k=some (b,.cells cells T (0,0))/\v = .slice (some ⟨b,off,none⟩) n cap/\(off=l*sz\/n=0/\off=0)/\l+n<=(c.xn k).1/\((c.xn k).1<=l+cap/\l+cap<=(c.xn k).2)
 | .mp=>∃ b es clock,c.x k=some (b,.map es clock)/\v = .map (some b)
 | .ents=>∃ es clock,c.x k=some (n,.map es clock)/\li es clock/\xs.length=es.size/\(∀ x∈xs,x.length=2) /\
   (∀ (i:Nat) (x:List AV) (e:MapEntry) (y:AV),xs[i]?=some x->es[i]?=some e->x[0]?=some y->RD c.m y e.key)/\∀ (i:Nat) (x:List AV) (e:MapEntry) (y:AV),xs[i]?=some x->es[i]?=some e->x[1]?=some y->RD c.m y e.val
 | .box=>∃ cells T own,c.x k=some (n,.cells cells T (0,0))/\xs=[own]/\cells.size=lo k+own.length/\(∀ y∈own,y.isCell=true)/\∀ (i:Nat) (y:AV) (u:Value),own[i]?=some y->cells[lo k+i]?=some u->RO c y u
def fp (c:dE):AV->Value->Prop
 | .me g k n xs,v=>RX c g k n xs v
 | .loc d off,v=>v = .pointer (some ⟨c.ρ d,off,none⟩)
 | .sl (.id k) sz xs,v=>v=c.τ k/\(j5 v=true->c.σ k=sz/\0<sz)/\RD c.m (.sl .no sz xs) v
 | x,v=>RD c.m x v
def RC (c:dE):AV->Value->Prop
 | .agg cs,v=>∃ vs:Array Value,v = .agg vs/\cs.length=vs.size/\(∀ x∈cs,x.isCell=true)/\∀ (i:Nat) (x:AV) (u:Value),cs[i]?=some x->vs[i]?=some u->fp c x u
 | x,v=>fp c x v
structure dE.le (c c':dE):Prop where
 m:c.m.le c'.m
 ρ:c'.ρ=c.ρ
 τ:c'.τ=c.τ
 σ:c'.σ=c.σ
 x:c'.x=c.x
 xn:c'.xn=c.xn
theorem dE.le.refl (c:dE):c.le c:=⟨.refl _,rfl,rfl,rfl,rfl,rfl⟩
theorem RO.mono {c c'} (e:c'.τ=c.τ) (d:c'.σ=c.σ) (hm:c.m.le c'.m) {x} {v} (r:RO c x v):RO c' x v:=by
 cases x with
 | sl o sz xs=>
  cases o with
  | id k=>obtain ⟨r1,a,b⟩:=r; exact ⟨by rw [e]; exact r1,by rw [d]; exact a,b.mono hm⟩
  | no=>exact RD.mono hm (show RD c.m _ v from r)
  | full=>exact RD.mono hm (show RD c.m _ v from r)
 | _=>exact RD.mono hm (show RD c.m _ v from r)
theorem RX.mono {c c'} (hx:c'.x=c.x) (h:c'.xn=c.xn) (A:c'.τ=c.τ) (z:c'.σ=c.σ) (hm:c.m.le c'.m) {g} {k n} {xs} {v} (r:RX c g k n xs v):RX c' g k n xs v:=by
 cases g with
 | box=>
  obtain ⟨cells,T,own,r1,f,a,d,p⟩:=r;exact ⟨cells,T,own,by rw [hx]; exact r1,f,a,d,fun i y u h1 h2=>(p i y u h1 h2).mono A z hm⟩
 | sl=>grind [RX]
 | ptr sz j=>simp only [RX,hx] at r ⊢; exact r
 | arr=>
  obtain ⟨b,cells,T,r1,r0,f,a,d⟩:=r;exact ⟨b,cells,T,by rw [hx]; exact r1,by rw [h]; exact r0,f,a,fun i r j y h1 h2=>let ⟨u,o,t⟩:=d i r j y h1 h2; ⟨u,o,t.mono hm⟩⟩
 | row b cap=>
  obtain ⟨cells,T,r1,r0,f,a,d⟩:=r;exact ⟨cells,T,by rw [hx]; exact r1,by rw [h]; exact r0,f,a,fun i r j y h1 h2=>let ⟨u,o,t⟩:=d i r j y h1 h2; ⟨u,o,t.mono hm⟩⟩
 | mp=>simp only [RX,hx] at r ⊢; exact r
 | sub sz l=>grind [RX]
 | ents=>
  obtain ⟨es,clock,r1,f,a,d,p,w⟩:=r;exact ⟨es,clock,by rw [hx]; exact r1,f,a,d,fun i x e y h1 h2 q=>(p i x e y h1 h2 q).mono hm,fun i x e y h1 h2 q=>(w i x e y h1 h2 q).mono hm⟩
theorem fp.mono {c c'} (h:c.le c') {x} {v} (r:fp c x v):fp c' x v:=by
 cases x with
 | me g k n xs=>exact RX.mono h.x h.xn h.τ h.σ h.m r
 | loc d off=>simp only [fp] at r ⊢; rw [h.ρ]; exact r
 | sl o sz xs=>
  cases o with
  | id k=>obtain ⟨r1,b,a⟩:=r; exact ⟨by rw [h.τ]; exact r1,by rw [h.σ]; exact b,a.mono h.m⟩
  | no=>exact RD.mono h.m (show RD c.m _ v from r)
  | full=>exact RD.mono h.m (show RD c.m _ v from r)
 | _=>exact RD.mono h.m (show RD c.m _ v from r)
theorem ec {c} {x} {v} (h:∀ cs,x≠.agg cs):RC c x v↔fp c x v:=by
 cases x with
 | agg cs=>exact absurd rfl (h cs)
 | _=>exact Iff.rfl
theorem RC.mono {c c'} (h:c.le c') {x} {v} (r:RC c x v):RC c' x v:=by
 cases x with
 | agg cs=>obtain ⟨vs,r1,b,e,d⟩:=r; exact ⟨vs,r1,b,e,fun i x u h1 h2=>(d i x u h1 h2).mono h⟩
 | _=>exact (ec (by intro cs a; cases a)).2 (fp.mono h ((ec (by intro cs a; cases a)).1 r))
theorem fp.of_RD {c} {x} {v} (h:RD c.m x v):fp c x v:=by
 cases h with
 | sl o sz xs base len cap p hf hl e j a b off l g d i=>
  cases o with
  | id k=>exact absurd rfl (p k)
  | no=>exact .sl _ _ _ _ _ _ p hf hl e j a b off l g d i
  | full=>exact .sl _ _ _ _ _ _ p hf hl e j a b off l g d i
 | junk v=>exact .junk v
 | undef=>exact .undef
 | int k n=>exact .int k n
 | bool b=>exact .bool b
 | str s=>exact .str s
 | lit v h h2=>exact .lit v h h2
 | fn f=>exact .fn f
 | clo f cap vs hl h=>exact .clo f cap vs hl h
 | agg cs vs hl e h=>exact .agg cs vs hl e h
 | tup cs vs hl h=>exact .tup cs vs hl h
 | ref cs b off e g d i=>exact .ref cs b off e g d i
 | pin k b off cs e g d i=>exact .pin k b off cs e g d i
 | mapv xs b es clock d l hl h2 q hv=>exact .mapv xs b es clock d l hl h2 q hv
theorem RC.of_RD {c} {x} {v} (h:RD c.m x v):RC c x v:=by
 cases x with
 | agg cs=>cases h with | agg _ vs hl b a=>exact ⟨vs,rfl,hl,b,fun i x u h1 h2 => .of_RD (a i x u h1 h2)⟩
 | _=>grind [ec,fp.of_RD]
theorem RD.no {m} {o} {sz} {xs} {v} (h:RD m (.sl o sz xs) v):RD m (.sl .no sz xs) v:=by
 cases h with
 | sl _ _ _ base len cap l hf hl j d a b off f g i e=>exact .sl _ _ _ _ _ _ (by intro k c; cases c) (by intro c; cases c) hl j d a b off f g i e
theorem fp.sl_no {c} {o} {sz} {xs} {v} (h:fp c (.sl o sz xs) v):RD c.m (.sl .no sz xs) v:=by
 cases o with
 | id k=>exact h.2.2
 | no=>exact RD.no h
 | full=>exact RD.no h
theorem fp.pub {c} {x} {v} (h:fp c x v):RD c.m x.pub1 v:=by
 cases x with
 | loc d off=>exact .junk v
 | me g k n xs=>exact .junk v
 | sl o sz xs=>
  cases o with
  | id k=>exact h.2.2
  | no=>exact h
  | full=>exact h
 | _=>exact h
theorem fK {x:AV} (h:x.isCell=true):x.pub1.isCell=true:=by
 cases x with
 | sl o sz xs=>cases o <;> rfl
 | _=>first | exact h | (simp [AV.isCell] at h)
theorem RC.pub {c} {x} {v} (h:RC c x v):RD c.m x.pub v:=by
 cases x with
 | agg cs=>
  obtain ⟨vs,rfl,h2,b,a⟩:=h;refine .agg _ vs (by simpa using h2) (fun y hy=>?_) (fun i y u h1 h2=>?_)
  ·obtain ⟨z,hz,rfl⟩:=bp.1 hy;exact fK (b z hz)
  ·rw [aQ] at h1;obtain ⟨z,hz,rfl⟩:=aA.1 h1;exact (a i z u hz h2).pub
 | tup vs=>exact h
 | _=>exact fp.pub ((ec (by intro cs d; cases d)).1 h)
theorem fp.one {c} {x} {v} (h:fp c x v) (a:x.isCell=true):v.oneCell'=true/\v.cells=#[v]:=by
 cases x with
 | loc d off=>simp [AV.isCell] at a
 | me g k n xs=>simp [AV.isCell] at a
 | sl o sz xs=>
  cases o with
  | id k=>exact RD.one h.2.2 rfl
  | no=>exact RD.one (show RD c.m _ v from h) rfl
  | full=>exact RD.one (show RD c.m _ v from h) rfl
 | _=>exact RD.one (show RD c.m _ v from h) a
theorem RC.cells {c} {x} {v} {cs} (h:RC c x v) (a:x.cells?=some cs) (b:∀ y∈cs,y.isCell=true) :
  cs.length=v.cells.size/\∀ (i:Nat) (y:AV) (u:Value),cs[i]?=some y->v.cells[i]?=some u->fp c y u:=by
 cases x with
 | agg ds=>
  simp only [AV.cells?,aB] at a;subst a;obtain ⟨vs,rfl,h2,f,e⟩:=h;exact ⟨h2,e⟩
 | junk=>cases a
 | undef=>cases a
 | tup vs=>cases a
 | loc d off=>cases a
 | me g k n xs=>cases a
 | int _ _ | bool _ | str _ | lit _ | fn _ | clo _ _ | sl _ _ _ | ref _ | mapv _ | pin _ _ _ _=>
  simp only [AV.cells?,aB] at a;subst a;have h:=(ec (by intro cs a; cases a)).1 h;have h1:=fp.one h rfl;grind
structure ce where
 P:Program
 F:Fence
 n:Nat
 w0:World
 m0:dI
 nt:Nat
structure ce.OK (Γ:ce):Prop where
 fn:∀ f,Γ.F.fn f
 depth:Γ.F.depth=none
 alive:Γ.F.alive=false
 mixed:Γ.P.follows .mixedOrders=true
 gm:(gf Γ.P).le Γ.m0
 gw:(gf Γ.P).sub Γ.w0
def kW:Value->Option Nat
 | .slice (some a) len cap=>if len<cap then some a.block else none
 | _=>none
def dc (c:dE) (k:Nat):Option Nat:=kW (c.τ k)
def nc (B:Nat->Prop) (v:Value):Prop:=v = .slice none 0 0\/∃ base len cap,v = .slice base len cap/\(base=none->len=cap)/\∀ a,base=some a->0<len->a=⟨a.block,0,none⟩/\B a.block
def zk (w0:World) (k g:Nat):Prop:=w0.heap.size<=g\/5000000<=k/\w0.heap[g]?=some (.deferred none)
theorem zk.free {w0} {k g} (h:zk w0 k g):free w0 g:=h.imp id And.right
theorem SN {w0} {k g} (h:w0.heap.size<=g):zk w0 k g := .inl h
def sfree (w0:World) (k g:Nat):Prop:=w0.heap.size<=g\/5000000<=k
theorem zk.sfree {w0:World} {k g:Nat} (h:zk w0 k g):sfree w0 k g:=h.imp id And.left
theorem Sx {w0:World} {k g:Nat} (h:w0.heap.size<=g):sfree w0 k g := .inl h
structure aay (Γ:ce) (c:dE) (bx:List (Nat×List AV)) (w:World) (k:Nat):Prop where
 blk:∀ g,dc c k=some g->∃ len cap T,∃ cells:Array Value,c.τ k = .slice (some ⟨g,0,none⟩) len cap/\w.heap[g]?=some (.cells cells T (0,0))/\cells.size=cap*c.σ k/\(∀ o,len*c.σ k<=o->c.m g o=none)/\zk Γ.w0 k g
 shape:nc (sfree Γ.w0 k) (c.τ k)
 box:∀ g d cs,dc c k=some g->get bx d=some cs->cs≠[]->c.ρ d≠g
 apart:∀ g j,dc c k=some g->dc c j=some g->j=k
def se:Obj->Bool
 | .cells .. | .map .. => true
 | _=>false
def Dn:Option Obj->Bool
 | some (.mapIter ..)=>true
 | _=>false
structure XOK (Γ:ce) (c:dE) (bx:List (Nat×List AV)) (w:World) (k b:Nat) (o:Obj):Prop where
 new:free Γ.w0 b
 obj:w.heap[b]?=some o
 kept:se o=true
 mem:∀ i,lo k<=i->c.m b i=none
 map:c.m.maps b=none
 box:∀ d cs,get bx d=some cs->cs≠[]->c.ρ d≠b
 own:∀ j,dc c j≠some b
 inj:∀ j o',c.x j=some (b,o')->j=k
structure WI (Γ:ce) (c:dE) (bx:List (Nat×List AV)) (w:World):Prop where
 ext:gN Γ.w0 w
 sub:c.m.sub w
 le0:Γ.m0.le c.m
 new:Γ.m0.News (free Γ.w0) c.m w
 box:∀ d cs,get bx d=some cs->cs≠[]->free Γ.w0 (c.ρ d)/\(∀ o,c.m (c.ρ d) o=none)/\(∀ x∈cs,x.isCell=true) /\
  ∃ (vs:Array Value) (T:TypeId),w.heap[c.ρ d]?=some (.cells vs T (0,0))/\cs.length=vs.size/\∀ (i:Nat) (x:AV) (v:Value),cs[i]?=some x->vs[i]?=some v->fp c x v
 inj:∀ d e cs a,get bx d=some cs->get bx e=some a->cs≠[]->a≠[]->c.ρ d=c.ρ e->d=e
 own:∀ k,aay Γ c bx w k
 xo:∀ k b o,c.x k=some (b,o)->XOK Γ c bx w k b o
def tS (o:Obj):Prop:=∀ c T fr,o = .cells c T fr->fr=(0,0)
structure iG (w w':World):Prop where
 drawn:w.drawn<=w'.drawn
theorem iG.refl (w):iG w w:=⟨ba _⟩
theorem iG.trans {a b c:World} (h:iG a b) (k:iG b c):iG a c:=⟨bC h.drawn k.drawn⟩
theorem iG.drew (w):iG w w.drew:=⟨Nat.le_succ _⟩
theorem iG.alloc (w:World) {o:Obj} (a:tS o):iG w (w.alloc o):=⟨ba _⟩
theorem iG.putObj (w:World) (r:Nat) {o:Obj} (a:tS o):iG w (w.putObj r o):=⟨ba _⟩
theorem ed (c) (T):tS (.cells c T (0,0)):=fun _ _ _ h=>by cases h; rfl
theorem w9 {w:World} {b:Nat} (h:ej w b) (o:Obj):ej (w.alloc o) b:=by
 obtain ⟨c,T,h⟩:=h;exact ⟨c,T,(RowKit.Below.heap_alloc w o b (aO.1 h).1).trans h⟩
theorem wZ {w w':World} {b:Nat} (h:ej w b) (a:RowKit.Below w.heap.size w w'):ej w' b:=by
 obtain ⟨c,T,h⟩:=h;exact ⟨c,T,(a.block _ (aO.1 h).1).trans h⟩
theorem oX {w:World} {b r:Nat} (h:ej w b) {p:Obj} (a:w.heap[r]?=some p) (d:∀ c T,p≠.cells c T (0,0)) (o:Obj):ej (w.putObj r o) b:=by
 obtain ⟨c,T,h⟩:=h;refine ⟨c,T,?_⟩;rw [c9 (fun e=>by grind)]; exact h
theorem dI.News.keep {m m':dI} {B:Nat->Prop} {w w':World} (h:m.News B m' w) (a:∀ b,ej w b->ej w' b):m.News B m' w':=
 ⟨fun b o v hv=>(h.cell b o v hv).imp id fun ⟨h1,h2⟩=>⟨h1,a b h2⟩,h.map⟩
structure NC (w w':World):Prop where
 size:w.heap.size<=w'.heap.size
 same:∀ (b:Nat) (o:Obj),w.heap[b]?=some o->se o=false->w'.heap[b]?=some o
 more:iG w w'
 soft:∀ b,ej w b->ej w' b
theorem NC.refl (w):NC w w:=⟨ba _,fun _ _ h _=>h,.refl _,fun _ h=>h⟩
theorem NC.trans {a b c:World} (h:NC a b) (k:NC b c):NC a c:=⟨bC h.size k.size,fun x o g e=>k.same x o (h.same x o g e) e,h.more.trans k.more,fun b d=>k.soft b (h.soft b d)⟩
theorem Cb {o:Obj} (h:se o=true):Dn (some o)=false:=by cases o <;> first | rfl | cases h
def kV (a:List Nat):List Deferred:=a.map fun D=>{ target := .collected D,args:=#[] }
structure d5 (Γ:ce) (s:St) (a:Act) (w:World):Prop where
 ex:∃ c,WI Γ c s.b w/\∀ d x,get s.t d=some x->RC c x (a.tmps.getD d Go.undef)
 size:a.tmps.size=Γ.nt
 defers:∃ e:List Nat,a.defers=kV e/\e.Nodup/\∀ D∈e,w.heap[D]?=some (.deferred (some []))/\Γ.w0.heap.size<=D
 rnd:∀ l,Γ.F.round=some l->∃ r,w.heap[l]?=some (.loop r)
def eE:List Oper->List Nat
 | []=>[]
 | o::r=>o.dst.toList++eE r
def oI:Code->List Nat
 | .region _ ops _=>eE ops.toList
 | .seq a b=>oI a++oI b
 | .cond _ a b=>oI a++oI b
 | .block _ c=>oI c
 | .loop c=>oI c
 | .scope c=>oI c
 | .rangeFunc _ _ _ _=>[1000000000]
 | _=>[]
def vw (a:Act) (d:Nat):List Deferred×Value:=if d=1000000000 then (a.defers,Go.undef) else ([],a.tmps.getD d Go.undef)
def FT (ds:List Nat) (a b:Act):Prop:=∀ d,d ∉ ds->vw b d=vw a d
theorem FT.tmps {ds:List Nat} {a b:Act} (h:FT ds a b) {d:Nat} (c:d ∉ ds) (e:d≠1000000000):b.tmps.getD d Go.undef=a.tmps.getD d Go.undef:=by
 have:=h d c;simp only [vw,aV e,er] at this;exact this.2
theorem FT.defers {ds:List Nat} {a b:Act} (h:FT ds a b) (c:1000000000 ∉ ds):b.defers=a.defers:=by
 have:=h _ c;simp only [vw,c5,er] at this;exact this.1
theorem FT.refl (ds) (a):FT ds a a:=fun _ _=>rfl
theorem FT.trans {ds:List Nat} {a b c:Act} (h:FT ds a b) (k:FT ds b c):FT ds a c:=fun d e=>(k d e).trans (h d e)
theorem FT.mono {ds es:List Nat} {a b:Act} (h:FT ds a b) (e:∀ d∈ds,d∈es):FT es a b:=fun d c=>h d fun f=>c (e d f)
theorem FT.put {a b:Act} {dst:Option Nat} (h:∃ v,b=a.put dst v):FT dst.toList a b:=by
 obtain ⟨v,rfl⟩:=h;intro d c
 cases dst with
 | none=>rfl
 | some k=>
  have:k≠d:=fun e=>c (by simp [e]);simp only [vw,Act.put,aG,R8 this]
def SP (Γ:ce) (s:St) (c:Code) (K:Exit->St->Prop):Prop:=
 ∀ a w,d5 Γ s a w->c.wpIn Γ.F Γ.n Γ.P (fun e b w'=>NC w w'/\FT (oI c) a b/\∃ s',d5 Γ s' b w'/\K e s') a w
structure aq (P:Program) (f:FuncId) (args:List AV) (r:AV):Prop where
 enters:∀ (args:Array Value) (w:World),(callFunc f args).run P w = .ok (.enter f args) w
 runs:∀ (m:dI) (w:World) (vs:List Value),m.sub w->(gf P).le m->args.length=vs.length->(∀ (i:Nat) (x:AV) (v:Value),args[i]?=some x->vs[i]?=some v->RD m x v) ->
  Calls P f vs.toArray w fun e w'=>∃ v m',e = .returned v/\RD m' r v/\m.le m'/\dI.sub m' w'/\RowKit.Below w.heap.size w w'/\m.News (w.heap.size<=·) m' w'/\iG w w'
open Go
theorem RC.int {c} {k} {n} {v} (h:RC c (.int k n) v):v = .int k n:=by cases (show RD c.m _ _ from h); rfl
theorem RC.bool {c} {b} {v} (h:RC c (.bool b) v):v = .bool b:=by cases (show RD c.m _ _ from h); rfl
theorem RC.fn {c} {f} {v} (h:RC c (.fn f) v):v = .func (.func f) #[] #[]:=by cases (show RD c.m _ _ from h); rfl
theorem RC.loc {c} {d off} {v} (h:RC c (.loc d off) v):v = .pointer (some ⟨c.ρ d,off,none⟩):=h
theorem ey {c} (k) (n):RC c (.int k n) (.int k n):=RD.int k n
theorem eZ {c} (b):RC c (.bool b) (.bool b):=RD.bool b
section
variable {Γ:ce} {o:Oper} {a:Act} {w w':World} {next:Act->World->Prop} {Q:Exit->Act->World->Prop}
theorem cT (d:Γ.OK) (b:∀ c,o.op≠.defer c) {v} (h:(execOp a.eval o).run Γ.P w = .ok (.value v) w') (e:next (a.put o.dst v) w'):o.wpIn Γ.F Γ.n Γ.P a w next Q:=by
 refine ⟨fun f _=>d.fn f,?_⟩;rw [ju _ _ _ b,h];exact e
theorem mG (d:Γ.OK) (b:∀ c,o.op≠.defer c) (h:(execOp a.eval o).run Γ.P w = .ok .skip w') (e:next (a.put o.dst Go.undef) w'):o.wpIn Γ.F Γ.n Γ.P a w next Q:=by
 refine ⟨fun f _=>d.fn f,?_⟩;rw [ju _ _ _ b,h];exact e
end
section
variable {T:eS} {P:Program} (hT:T.OK P)
include hT
theorem ei {t} {i} (g:get T t=some i):∃ j d,P.info? t=some j/\P.underlying t=some d/\TI.of P t=some i:=by
 have h:=hT.get g;grind [TI.of]
theorem eQ {t} {i} (g:get T t=some i) (w):(sizeOf t).run P w = .ok i.size w:=by
 obtain ⟨j,d,h1,h2,b⟩:=ei hT g;simp only [TI.of,h1,h2,aB] at b;simp [sizeOf,typeInfo,h1,<- b,go_sem]
theorem oV {t} {i} (g:get T t=some i) (e:i.kind=1):∃ b,P.underlying t=some (.struct b)/\i.flds=b.toList.map fun f=>(f.offset,f.type):=by
 obtain ⟨j,d,h1,h2,c⟩:=ei hT g;simp only [TI.of,h1,h2,aB] at c;grind
theorem k9 {t} {i} (g:get T t=some i) (b:i.kind=2):P.underlying t=some (.array i.arr i.elem):=by
 obtain ⟨j,d,h1,h2,c⟩:=ei hT g;grind [TI.of,Option.some.injEq]
theorem d6 {t} {i} (g:get T t=some i) (b:i.kind=3):P.underlying t=some (.slice i.elem):=by
 obtain ⟨j,d,h1,h2,c⟩:=ei hT g;grind [TI.of,Option.some.injEq]
theorem NO {t} {i} (g:get T t=some i) (b:i.kind=4):P.underlying t=some (.int i.ik):=by
 obtain ⟨j,d,h1,h2,c⟩:=ei hT g;grind [TI.of,Option.some.injEq]
theorem HD {t} {i} (g:get T t=some i) (b:i.kind=5):P.underlying t=some .bool:=by
 obtain ⟨j,d,h1,h2,c⟩:=ei hT g;grind [TI.of,Option.some.injEq]
theorem HC {t} {i} (g:get T t=some i) (e:i.kind=8):∃ a b c,P.underlying t=some (.func a b c):=by
 obtain ⟨j,d,h1,h2,f⟩:=ei hT g;grind [TI.of,Option.some.injEq]
theorem NP {t} {i} (g:get T t=some i) (w):(isAgg t).run P w = .ok (Nat.beq i.kind 1||Nat.beq i.kind 2) w:=by
 obtain ⟨j,d,h1,h2,b⟩:=ei hT g;simp only [TI.of,h1,h2,aB] at b;subst b;cases d <;> simp [isAgg,underlying,h2,go_sem] <;> exact ⟨rfl,rfl⟩
end
theorem fm (b off j):(⟨b,off,none⟩:Addr).add j=⟨b,off+j,none⟩:=by unfold Addr.add; split <;> simp_all
theorem jQ {T:eS} {P} (hT:T.OK P) {t} {i} (g:get T t=some i) {c} {w} {b off} {cells} {vals:List Value} (hlen:cells.length=vals.length)
  (d:∀ x∈cells,x.isCell=true) (m:∀ (j:Nat) (x:AV) (v:Value),cells[j]?=some x->vals[j]?=some v->fp c x v)
  (hm:∀ (j:Nat) (v:Value),vals[j]?=some v->w.cell? ⟨b,off+j,none⟩=some v) {x} (h:eO i cells=some x) :
  ∃ v,(loadVar t ⟨b,off,none⟩).run P w = .ok v w/\RC c x v:=by
 unfold eO at h;have e:=NP hT g w
 cases l:(Nat.beq i.kind 1||Nat.beq i.kind 2) with
 | true=>
  rw [l] at h e;simp only [aR] at h
  cases f:Nat.ble i.size cells.length with
  | false=>rw [f] at h; cases h
  | true=>
   rw [f] at h;simp only [aR,aB] at h;have n:i.size<=cells.length:=ah f
   have hl:=run_loadCells_list (P:=P) w ⟨b,off,none⟩ (vals.take i.size) (fun j v hv=>by
    grind [fm])
   rw [dA,rD ar] at hl;refine ⟨.agg (vals.take i.size).toArray,?_,?_⟩
   ·simp only [loadVar,aD,e,aw,c5,eQ hT g,hl,aL]
   ·subst h;refine ⟨_,rfl,by simp; omega,fun y hy=>d y (dy hy),fun j y u h1 h2=>?_⟩;grind
 | false=>
  rw [l] at h e;simp only [br] at h
  cases cells with
  | nil=>cases h
  | cons y q=>
   simp only [aB] at h;subst h
   cases vals with
   | nil=>cases hlen
   | cons v vs=>
    have p:=hm 0 v rfl;refine ⟨v,?_,?_⟩
    ·simp only [loadVar,aD,e,aw,bv,cu,run_load];grind
    ·have h1:=m 0 y v rfl rfl;refine (ec ?_).2 h1;rintro cs rfl;grind [absurd,List.mem_cons_self,AV.isCell]
theorem Cy {Γ} {c} {bx} {w} (h:WI Γ c bx w) {d} {cs} (e:get bx d=some cs) (off) :
  ∃ vals:List Value,(cs.drop off).length=vals.length/\(∀ x∈cs.drop off,x.isCell=true)/\(∀ (j:Nat) (x:AV) (v:Value),(cs.drop off)[j]?=some x->vals[j]?=some v->fp c x v) /\
   ∀ (j:Nat) (v:Value),vals[j]?=some v->w.cell? ⟨c.ρ d,off+j,none⟩=some v:=by
 by_cases b:cs=[]
 ·subst b;exact ⟨[],by simp,by simp,by simp,by simp⟩
 ·obtain ⟨h1,h2,f,vs,U,m,i,l⟩:=h.box d cs e b;refine ⟨vs.toList.drop off,by simp [i],fun x hx=>f x (gh hx),fun j x v g1 g2=>?_,fun j v g=>?_⟩
  ·grind
  grind [World.cell?]
theorem wg {c} {w} (i:c.m.sub w) {cs} {b off} (h:RD c.m (.ref cs) (.pointer (some ⟨b,off,none⟩))) :
  ∃ vals:List Value,cs.length=vals.length/\(∀ x∈cs,x.isCell=true)/\(∀ (j:Nat) (x:AV) (v:Value),cs[j]?=some x->vals[j]?=some v->fp c x v) /\
   ∀ (j:Nat) (v:Value),vals[j]?=some v->w.cell? ⟨b,off+j,none⟩=some v:=by
 cases h with
 | ref _ _ _ l g hm n=>
  refine ⟨(List.range cs.length).map g,by simp,l,fun j x v g1 g2=>?_,fun j v g2=>?_⟩
  ·rw [aQ] at g2;obtain ⟨k,f,rfl⟩:=aA.1 g2;grind [fp.of_RD]
  ·rw [aQ] at g2;obtain ⟨k,f,rfl⟩:=aA.1 g2;obtain ⟨e,d⟩:=am.1 f;simp at e d; subst d;exact i.cell _ _ _ (hm j _ (ai e))
open Go
theorem fj {α:Type}:∀ (l:List α) (n:Nat),qj l n=l[n]?
 | [],n=>by simp [qj]
 | x::r,0=>by simp [qj]
 | x::r,n+1=>by simp [qj,fj r n]
def fY (Γ:ce) (c:dE) (a:Act) (w:World) (o:Oper) (K:AV->Prop):Prop:=
 ∃ v x,(execOp a.eval o).run Γ.P w = .ok (.value v) w/\RC c x v/\K x
section
variable {Γ:ce} {T:eS} (hT:T.OK Γ.P) {bx:List (Nat×List AV)} {e:Operand->AV} {K:AV->Prop} {o:Oper} {a:Act} {w:World} {c:dE}
theorem VR {op} {x} {u} (h:Zf op x K) (hx:RC c x u):∃ v y,(Op.unary op u).run Γ.P w = .ok v w/\RC c y v/\K y:=by
 unfold Zf at h;split at h
 ·rw [hx.int]; exact ⟨_,_,by simp [Op.unary,Op.intArith],ey _ _,h⟩
 ·rw [hx.bool]; exact ⟨_,_,by simp [Op.unary],eZ _,h⟩
 ·exact h.elim
theorem IL {op} {t} {x y} {k k'} {m n}:(eqGuard op t x y (.int k m) (.int k' n)).run Γ.P w = .ok () w:=by
 unfold eqGuard; split <;> simp
theorem uB {op} {t} {x y} {m n}:(eqGuard op t x y (.bool m) (.bool n)).run Γ.P w = .ok () w:=by
 unfold eqGuard; split <;> simp
theorem Ua {op} {t} {k k'} {m n} (h:yj T op t (.int k m) (.int k' n) K):∃ v y,(binOp op t (.int k m) (.int k' n)).run Γ.P w = .ok v w/\RC c y v/\K y:=by
 unfold yj at h;cases op <;> simp only at h
 case add=>obtain ⟨rfl,b⟩:=fW h; clear h; have h:=b; exact ⟨_,_,by simp [binOp,Op.intArith],ey _ _,h⟩
 case sub=>obtain ⟨rfl,b⟩:=fW h; clear h; have h:=b; exact ⟨_,_,by simp [binOp,Op.intArith],ey _ _,h⟩
 case mul=>obtain ⟨rfl,b⟩:=fW h; clear h; have h:=b; exact ⟨_,_,by simp [binOp,Op.intArith],ey _ _,h⟩
 case quo=>obtain ⟨rfl,d,b⟩:=fW h; clear h; have h:=b; exact ⟨_,_,by simp [binOp,Op.intDiv,d],ey _ _,h⟩
 case rem=>obtain ⟨rfl,d,b⟩:=fW h; clear h; have h:=b; exact ⟨_,_,by simp [binOp,Op.intDiv,d],ey _ _,h⟩
 case and=>obtain ⟨rfl,b⟩:=fW h; clear h; have h:=b; exact ⟨_,_,by simp only [binOp,Op.intBits,AN,iN,cu]; rfl,ey _ _,h⟩
 case or=>obtain ⟨rfl,b⟩:=fW h; clear h; have h:=b; exact ⟨_,_,by simp only [binOp,Op.intBits,AN,iN,cu]; rfl,ey _ _,h⟩
 case xor=>obtain ⟨rfl,b⟩:=fW h; clear h; have h:=b; exact ⟨_,_,by simp only [binOp,Op.intBits,AN,iN,cu]; rfl,ey _ _,h⟩
 case andNot=>obtain ⟨rfl,b⟩:=fW h; clear h; have h:=b; exact ⟨_,_,by simp only [binOp,Op.intBits,AN,iN,cu]; rfl,ey _ _,h⟩
 case shl=>obtain ⟨d,h⟩:=h; exact ⟨_,_,by simp [binOp,Op.shift,show ¬ n<0 by omega],ey _ _,h⟩
 case shr=>obtain ⟨d,h⟩:=h; exact ⟨_,_,by simp [binOp,Op.shift,show ¬ n<0 by omega],ey _ _,h⟩
 case eql=>obtain ⟨rfl,b⟩:=fW h; clear h; have h:=b; exact ⟨_,_,by simp [binOp,Op.intCmp],eZ _,h⟩
 case neq=>obtain ⟨rfl,b⟩:=fW h; clear h; have h:=b; exact ⟨_,_,by simp [binOp,Op.intCmp],eZ _,h⟩
 case lss=>obtain ⟨rfl,b⟩:=fW h; clear h; have h:=b; exact ⟨_,_,by simp [binOp,Op.intCmp],eZ _,h⟩
 case leq=>obtain ⟨rfl,b⟩:=fW h; clear h; have h:=b; exact ⟨_,_,by simp [binOp,Op.intCmp],eZ _,h⟩
 case gtr=>obtain ⟨rfl,b⟩:=fW h; clear h; have h:=b; exact ⟨_,_,by simp [binOp,Op.intCmp],eZ _,h⟩
 case geq=>obtain ⟨rfl,b⟩:=fW h; clear h; have h:=b; exact ⟨_,_,by simp [binOp,Op.intCmp],eZ _,h⟩
theorem uC {P} (l) (hf:∀ f∈l,f.name ≠ "_" /\ ∃ k,P.underlying f.type=some (.int k)) {xs ys} {cx cy}
  (hx:cx.length=xs.size/\∀ (i:Nat) (x:AV) (u:Value),cx[i]?=some x->xs[i]?=some u->fp c x u) (hy:cy.length=ys.size/\∀ (i:Nat) (x:AV) (u:Value),cy[i]?=some x->ys[i]?=some u->fp c x u)
  (d):∀ b:Bool,nz (l.map fun f=>(f.offset,f.type)) cx cy=some b->(Op.eqFields (d+1) xs ys l).run P w = .ok b w:=by
 induction l with
 | nil=>intro b h; simp only [eU,nz,aB] at h; subst h; simp [Op.eqFields]
 | cons f l D=>
  intro b h;obtain ⟨A,k,n⟩:=hf f (a7 ..);simp only [cp,nz,fj] at h;split at h
  ·rename_i k1 x k2 y r h1 h2 z
   have m:k1=k2:=by
    cases q:ww k1 k2 with
    | true=>exact rO q
    | false=>rw [q] at h; cases h
   rw [show ww k1 k2=true by grind,aR] at h;simp only [aB] at h;have B:f.offset<cx.length:=(am.1 h1).1;have v:f.offset<cy.length:=(am.1 h2).1
   have g1:xs[f.offset]?=some (.int k1 x):=by
    have j:f.offset<xs.size:=by omega
    have:=hx.2 _ _ _ h1 (aE j);rw [aE j];exact ax some (RC.int (c:=c) this)
   have g2:ys[f.offset]?=some (.int k2 y):=by
    have j:f.offset<ys.size:=by omega
    have:=hy.2 _ _ _ h2 (aE j);rw [aE j];exact ax some (RC.int (c:=c) this)
   have p1:(part f.type xs f.offset).run P w = .ok (.int k1 x) w:=by simp [part,isAgg,aY n,g1]
   have p2:(part f.type ys f.offset).run P w = .ok (.int k2 y) w:=by simp [part,isAgg,aY n,g2]
   have ih':=D (fun g t=>hf g (a6 _ t)) r z;subst m;simp only [Op.eqFields,AN,A,vK,c5,aD,p1,p2,aw,Zj w d f.type k1 k x y n,Lu]
   cases p:x==y with
   | true=>grind
   | false=>simp only [ep,c5,aL]; rw [<- h,p]; rfl
  ·cases h
include hT in
theorem tQ {t} {i} (g:get T t=some i) (b:i.eqOK=true):∃ h:Array Field,Γ.P.underlying t=some (.struct h)/\i.flds=(h.toList.map fun f=>(f.offset,f.type))/\Γ.P.stoodInHeld t=false /\
  Γ.P.eqGuardType Γ.P.depth t=false/\∀ f∈h.toList,f.name ≠ "_" /\ ∃ k,Γ.P.underlying f.type=some (.int k):=by
 obtain ⟨j,d,h1,h2,l⟩:=ei hT g;simp only [TI.of,h1,h2,aB] at l;subst l;cases d <;> simp only [bv] at b;rename_i h;simp only [al,cI,aN] at b;refine ⟨h,h2,rfl,b.1.1,b.1.2,fun f hf=>?_⟩;have:=b.2 f hf;refine ⟨by simpa using this.1.1,?_⟩
 cases hu:Γ.P.underlying f.type with
 | none=>grind
 | some d=>cases d <;> simp [hu] at this; exact ⟨_,rfl⟩
include hT in
theorem VT {t} {i} (g:get T t=some i) (n:Nat.beq i.kind 1=true) (l:Nat.beq i.arr 1=true):∃ b:Array Field,Γ.P.underlying t=some (.struct b)/\i.flds=(b.toList.map fun f=>(f.offset,f.type))/\Γ.P.stoodInHeld t=false /\
  Γ.P.eqGuardType Γ.P.depth t=false/\∀ f∈b.toList,f.name ≠ "_" /\ ((∃ k,Γ.P.underlying f.type=some (.int k))\/∃ gs,Γ.P.underlying f.type=some (.struct gs)):=by
 obtain ⟨j,d,h1,h2,m⟩:=ei hT g;simp only [TI.of,h1,h2,aB] at m;subst m
 cases d with
 | struct b=>
  simp only at l
  cases h:(!Γ.P.stoodInHeld t && !Γ.P.eqGuardType Γ.P.depth t&&b.toList.all (wE Γ.P)) with
  | false=>rw [h] at l; cases l
  | true=>
   simp only [al,cI,aN] at h;refine ⟨b,h2,rfl,h.1.1,h.1.2,fun f hf=>?_⟩;have:=h.2 f hf;simp only [wE,al] at this;refine ⟨by simpa using this.1,?_⟩;have this:=this.2
   cases hu:Γ.P.underlying f.type with
   | none=>grind
   | some d=>cases d <;> simp [hu] at this <;> grind
 | _=>simp at n
include hT in
theorem VU {t} {i} (g:get T t=some i) (p:Nat.beq i.kind 2=true) (f:Nat.beq (tp i.flds) 1=true):∃ e h,Γ.P.underlying t=some (.array i.arr e)/\Γ.P.info? e=some h/\Γ.P.underlying e=some .bool/\Γ.P.cellsOf e=1/\Γ.P.eqGuardType Γ.P.depth t=false:=by
 obtain ⟨j,d,h1,h2,m⟩:=ei hT g;simp only [TI.of,h1,h2,aB] at m;subst m
 cases d with
 | array n e=>
  simp only at f
  cases b:yG Γ.P t e with
  | false=>rw [b] at f; cases q:DW Γ.P t e <;> rw [q] at f <;> cases f
  | true=>
   simp only [yG,IN,al,cI,tn] at b;obtain ⟨h,l⟩:=my.1 b.1.1.2;refine ⟨e,h,h2,l,?_,b.2,b.1.1.1⟩;have this:=b.1.2
   cases hu:Γ.P.underlying e with
   | none=>grind
   | some d=>grind
 | _=>simp at p
include hT in
theorem tR {t} {i} (g:get T t=some i) (p:Nat.beq i.kind 2=true) (b:Nat.beq (tp i.flds) 2=true):∃ e h k,Γ.P.underlying t=some (.array i.arr e)/\Γ.P.info? e=some h/\Γ.P.underlying e=some (.int k)/\Γ.P.cellsOf e=1/\Γ.P.eqGuardType Γ.P.depth t=false:=by
 obtain ⟨j,d,h1,h2,l⟩:=ei hT g;simp only [TI.of,h1,h2,aB] at l;subst l
 cases d with
 | array n e=>
  simp only at b
  cases m:yG Γ.P t e with
  | true=>rw [m] at b; cases b
  | false=>
   rw [m,br] at b
   cases f:DW Γ.P t e with
   | false=>rw [f] at b; cases b
   | true=>
    simp only [DW,OR,al,cI,tn] at f;obtain ⟨h,q⟩:=my.1 f.1.1.2;have this:=f.1.2
    cases hu:Γ.P.underlying e with
    | none=>grind
    | some d=>grind
 | _=>simp at p
theorem IK {n} {xs ys} {b} (h:ph (n+1) xs ys=some b):∃ k p r q f i,xs = .int k p::r/\ys = .int k q::f/\ph n r f=some i/\b=((p==q)&&i):=by
 match xs,ys,h with
 | .int k p::r,.int k' q::f,h=>
  simp only [ph] at h;split at h
  ·rename_i i j
   cases d:ww k k' with
   | false=>rw [d] at h; cases h
   | true=>
    rw [d] at h;simp only [aR,aB] at h;have:=rO d;subst this;grind
  ·cases h
theorem pg {e:TypeId} {k0:IntKind} (he:Γ.P.underlying e=some (.int k0)) {z y:List AV} {xs B:Array Value}
  (hx:z.length=xs.size/\∀ (i:Nat) (x:AV) (u:Value),z[i]?=some x->xs[i]?=some u->fp c x u) (hy:y.length=B.size/\∀ (i:Nat) (x:AV) (u:Value),y[i]?=some x->B[i]?=some u->fp c x u) (d:Nat) :
  ∀ (n j:Nat) (b:Bool),ph n (z.drop j) (y.drop j)=some b->(Op.eqItems (d+1) e 1 xs B (List.range' j n)).run Γ.P w = .ok b w
 | 0,j,b,h=>by simp only [ph,aB] at h; subst h; simp [Op.eqItems]
 | n+1,j,b,h=>by
  have get:∀ {l:List AV} {f:Array Value} {k:IntKind} {q:Int} {r:List AV},(l.length=f.size/\∀ (i:Nat) (x:AV) (u:Value),l[i]?=some x->f[i]?=some u->fp c x u)->l.drop j = .int k q::r->(part e f (j*1)).run Γ.P w = .ok (.int k q) w/\l.drop (j+1)=r:=by
   intro l f k q r hz D;have E:l[j]?=some (.int k q):=by rw [<- AS,D]; rfl
   have m:j<f.size:=by rw [<- hz.1]; exact (am.1 E).1
   have hv:=hz.2 _ _ _ E (aE m);have g:f[j]?=some (.int k q):=by rw [aE m]; exact ax some (RC.int (c:=c) hv)
   refine ⟨by simp [part,isAgg,aY he,g],?_⟩;rw [<- Zb,D]; rfl
  obtain ⟨k,p,r,q,M,J,A,v,t,rfl⟩:=IK h;obtain ⟨p1,G⟩:=get hx A;obtain ⟨p2,F⟩:=get hy v;rw [<- G,<- F] at t;have L:=pg he hx hy d n (j+1) J t;rw [ff];simp only [Op.eqItems,aD,p1,p2,aw,Zj w d e k k0 p q he,Lu]
  cases H:p==q with
  | true=>grind
  | false=>simp only [ep,c5,aL]; rfl
theorem DH {n} {xs ys} {b} (h:pi (n+1) xs ys=some b):∃ p r q d f,xs = .bool p::r/\ys = .bool q::d/\pi n r d=some f/\b=((p==q)&&f):=by
 match xs,ys,h with
 | .bool p::r,.bool q::d,h=>
  simp only [pi] at h;grind
theorem sF {e:TypeId} (he:Γ.P.underlying e=some .bool) {z y:List AV} {xs B:Array Value}
  (hx:z.length=xs.size/\∀ (i:Nat) (x:AV) (u:Value),z[i]?=some x->xs[i]?=some u->fp c x u) (hy:y.length=B.size/\∀ (i:Nat) (x:AV) (u:Value),y[i]?=some x->B[i]?=some u->fp c x u) (d:Nat) :
  ∀ (n j:Nat) (b:Bool),pi n (z.drop j) (y.drop j)=some b->(Op.eqItems (d+1) e 1 xs B (List.range' j n)).run Γ.P w = .ok b w
 | 0,j,b,h=>by simp only [pi,aB] at h; subst h; simp [Op.eqItems]
 | n+1,j,b,h=>by
  have get:∀ {l:List AV} {f:Array Value} {q:Bool} {r:List AV},(l.length=f.size/\∀ (i:Nat) (x:AV) (u:Value),l[i]?=some x->f[i]?=some u->fp c x u)->l.drop j = .bool q::r->(part e f (j*1)).run Γ.P w = .ok (.bool q) w/\l.drop (j+1)=r:=by
   intro l f q r hz D;have E:l[j]?=some (.bool q):=by rw [<- AS,D]; rfl
   have m:j<f.size:=by rw [<- hz.1]; exact (am.1 E).1
   have hv:=hz.2 _ _ _ E (aE m);have g:f[j]?=some (.bool q):=by rw [aE m]; exact ax some (RC.bool (c:=c) hv)
   refine ⟨by simp [part,isAgg,aY he,g],?_⟩;rw [<- Zb,D]; rfl
  obtain ⟨p,r,q,M,J,A,v,t,rfl⟩:=DH h;obtain ⟨p1,G⟩:=get hx A;obtain ⟨p2,F⟩:=get hy v;rw [<- G,<- F] at t;have L:=sF he hx hy d n (j+1) J t;rw [ff];simp only [Op.eqItems,aD,p1,p2,aw,run_equalIn_bool w d e p q he,Lu]
  cases H:p==q with
  | true=>grind
  | false=>simp only [ep,c5,aL]; rfl
include hT in
theorem th:∀ (n:Nat) (t:TypeId) (U M:List AV) (xs p:Array Value) (b:Bool),wF T n t U M=some b ->
  (U.length=xs.size/\∀ (i:Nat) (x:AV) (u:Value),U[i]?=some x->xs[i]?=some u->fp c x u)->(M.length=p.size/\∀ (i:Nat) (x:AV) (u:Value),M[i]?=some x->p[i]?=some u->fp c x u) ->
  Γ.P.eqGuardType Γ.P.depth t=false/\∀ d,n<=d->(Op.equalIn (d+2) t (.agg xs) (.agg p)).run Γ.P w = .ok b w
 | 0,_,_,_,_,_,_,h,_,_=>by cases h
 | n+1,t,U,M,xs,p,b,h,hx,hy=>by
  unfold wF at h;split at h
  ·cases h
  ·rename_i i E
   cases G:i.eqOK with
   | true=>
    rw [G] at h;obtain ⟨fs,hu,z,hs,l,hf⟩:=tQ hT E G;rw [aR,z] at h;have m:Γ.P.fieldsOf t=fs:=by simp [Program.fieldsOf,hu]
    refine ⟨l,fun d hd=>?_⟩;rw [run_equalIn_struct w (d+1) t xs p (by rw [m]; exact hu) hs,m];exact uC (w:=w) fs.toList hf hx hy d b h
   | false=>
    rw [G,br] at h
    cases D:(Nat.beq i.kind 1&&Nat.beq i.arr 1) with
    | false=>
     rw [D,br] at h
     cases ha:(Nat.beq i.kind 2&&Nat.beq (tp i.flds) 1) with
     | false=>
      rw [ha,br] at h
      cases r:(Nat.beq i.kind 2&&Nat.beq (tp i.flds) 2) with
      | false=>rw [r] at h; cases h
      | true=>
       rw [r,aR] at h;simp only [al] at r;obtain ⟨e,ie,k,hu,F,he,H,l⟩:=tR hT E r.1 r.2;refine ⟨l,fun d hd=>?_⟩;rw [VB w (d+1) xs p hu F,H,c6];exact pg (w:=w) he hx hy d i.arr 0 b (by simpa using h)
     | true=>
      rw [ha,aR] at h;simp only [al] at ha;obtain ⟨e,ie,hu,F,he,H,l⟩:=VU hT E ha.1 ha.2;refine ⟨l,fun d hd=>?_⟩;rw [VB w (d+1) xs p hu F,H,c6];exact sF (w:=w) he hx hy d i.arr 0 b (by simpa using h)
    | true=>
     rw [D,aR] at h;simp only [al] at D;obtain ⟨fs,hu,z,hs,l,hf⟩:=VT hT E D.1 D.2;rw [z] at h;have m:Γ.P.fieldsOf t=fs:=by simp [Program.fieldsOf,hu]
     refine ⟨l,fun d hd=>?_⟩;rw [run_equalIn_struct w (d+1) t xs p (by rw [m]; exact hu) hs,m];clear hu z m;generalize fs.toList=fl at h hf ⊢
     induction fl generalizing b with
     | nil=>simp only [eU,TP,aB] at h; subst h; simp [Op.eqFields]
     | cons f fl ih=>
      obtain ⟨hn,X⟩:=hf f (a7 ..);simp only [cp,TP,fj] at h;split at h
      ·cases h
      ·rename_i j hj;obtain ⟨_,dsc,_,B,A⟩:=ei hT hj
       cases J:Nat.beq j.kind 4 with
       | true=>
        rw [J,aR] at h;split at h
        ·rename_i k1 x k2 y b' h1 h2 h3
         have hkk:k1=k2:=by
          cases D:ww k1 k2 with
          | true=>exact rO D
          | false=>rw [D] at h; cases h
         rw [show ww k1 k2=true by grind,aR] at h;simp only [aB] at h;have hl1:f.offset<U.length:=(am.1 h1).1;have hl2:f.offset<M.length:=(am.1 h2).1
         have g1:xs[f.offset]?=some (.int k1 x):=by
          have q:f.offset<xs.size:=by omega
          have:=hx.2 _ _ _ h1 (aE q);rw [aE q];exact ax some (RC.int (c:=c) this)
         have g2:p[f.offset]?=some (.int k2 y):=by
          have q:f.offset<p.size:=by omega
          have:=hy.2 _ _ _ h2 (aE q);rw [aE q];exact ax some (RC.int (c:=c) this)
         obtain ⟨k,G⟩:∃ k,Γ.P.underlying f.type=some (.int k):=by
          rcases X with h | ⟨gs,h⟩
          ·exact h
          ·exfalso;rw [B] at h; cases h;simp only [TI.of,‹Γ.P.info? f.type=some _›,B,aB] at A;rw [<- A] at J; cases J
         have p1:(part f.type xs f.offset).run Γ.P w = .ok (.int k1 x) w:=by simp [part,isAgg,aY G,g1]
         have p2:(part f.type p f.offset).run Γ.P w = .ok (.int k2 y) w:=by simp [part,isAgg,aY G,g2]
         have ih':=ih b' h3 (fun g E=>hf g (a6 _ E));subst hkk;simp only [Op.eqFields,AN,hn,vK,c5,aD,p1,p2,aw,Zj w d f.type k1 k x y G,Lu]
         cases v:x==y with
         | true=>grind
         | false=>simp only [ep,c5,aL]; rw [<- h,v]; rfl
        ·cases h
       | false=>
        rw [J,br] at h;split at h
        ·rename_i b1 b2 h1 h2;simp only [aB] at h
         obtain ⟨gs,hst⟩:∃ gs,Γ.P.underlying f.type=some (.struct gs):=by
          rcases X with ⟨k,h⟩ | h
          ·exfalso;rw [B] at h; cases h;simp only [TI.of,‹Γ.P.info? f.type=some _›,B,aB] at A;rw [<- A] at J; cases J
          ·exact h
         have sub:∀ {Q:List AV} {N:Array Value},(Q.length=N.size/\∀ (i:Nat) (x:AV) (u:Value),Q[i]?=some x->N[i]?=some u->fp c x u) ->
           (((Q.drop f.offset).take j.size).length=(N.extract f.offset (f.offset+j.size)).size/\∀ (i:Nat) (x:AV) (u:Value),((Q.drop f.offset).take j.size)[i]?=some x->(N.extract f.offset (f.offset+j.size))[i]?=some u->fp c x u):=by
          intro Q N ⟨g1,g2⟩;refine ⟨by simp; omega,fun i x u Z e2=>?_⟩;rw [dL] at Z;split at Z
          ·rw [da] at Z;rw [Array.getElem?_extract] at e2;split at e2
           ·exact g2 _ _ _ Z e2
           ·cases e2
          ·cases Z
         have L:=(th n f.type _ _ _ _ b1 h1 (sub hx) (sub hy)).2 (d - 1) ar;rw [show d - 1+2=d+1 by omega] at L;have p1:(part f.type xs f.offset).run Γ.P w = .ok (.agg (xs.extract f.offset (f.offset+j.size))) w:=by simp [part,isAgg,aY hst,eQ hT hj]
         have p2:(part f.type p f.offset).run Γ.P w = .ok (.agg (p.extract f.offset (f.offset+j.size))) w:=by simp [part,isAgg,aY hst,eQ hT hj]
         have ih':=ih b2 h2 (fun g E=>hf g (a6 _ E));simp only [Op.eqFields,AN,hn,vK,c5,aD,p1,p2,aw,L,Lu]
         cases v:b1 with
         | true=>simp only [jj,bv,cu,ih']; rw [<- h,v]; rfl
         | false=>simp only [ep,c5,aL]; rw [<- h,v]; rfl
        ·cases h
theorem ya {P} (w) (d) {t} {a1 a2 a3} (hf:P.underlying t=some (.func a1 a2 a3)):(Op.equalIn (d+1) t .nilFunc .nilFunc).run P w = .ok true w:=by simp [Op.equalIn,aY hf]
theorem vZ {P} (w) (d) {t} {a1 a2 a3} (hf:P.underlying t=some (.func a1 a2 a3)) (f) (x y):(Op.equalIn (d+1) t (.func f x y) .nilFunc).run P w = .ok false w:=by simp [Op.equalIn,aY hf]
include hT in
theorem zm {op} {t} {p q} {b} {u} (h:Ma T op t b K) (hu:(u = .nilFunc/\b=true)\/(∃ f x y,u = .func f x y)/\b=false) :
  ∃ r z,((do eqGuard op t p q u .nilFunc; binOp op t u .nilFunc:Sem Value)).run Γ.P w = .ok r w/\RC c z r/\K z:=by
 unfold Ma at h
 have d:∀ j,(eqGuard j t p q u .nilFunc).run Γ.P w = .ok () w:=by
  intro j;rcases hu with ⟨rfl,_⟩ | ⟨⟨f,x,y,rfl⟩,_⟩ <;> (unfold eqGuard; split <;> simp)
 have heq:∀ l a2 a3,Γ.P.underlying t=some (.func l a2 a3)->(Op.equal t u .nilFunc).run Γ.P w = .ok b w:=by
  intro l a2 a3 hf;rcases hu with ⟨rfl,rfl⟩ | ⟨⟨f,x,y,rfl⟩,rfl⟩
  ·exact ya w 9999 hf
  ·exact vZ w 9999 hf f x y
 split at h
 ·rename_i i m;obtain ⟨n,h⟩:=pz h;obtain ⟨l,a2,a3,hf⟩:=HC hT m (aj n);refine ⟨_,_,?_,eZ _,h⟩;rcases hu with ⟨rfl,rfl⟩ | ⟨⟨f,x,y,rfl⟩,rfl⟩ <;> simp only [aD,d,aw,binOp,heq _ _ _ hf] <;> rfl
 ·rename_i i m;obtain ⟨n,h⟩:=pz h;obtain ⟨l,a2,a3,hf⟩:=HC hT m (aj n);refine ⟨_,_,?_,eZ _,h⟩;rcases hu with ⟨rfl,rfl⟩ | ⟨⟨f,x,y,rfl⟩,rfl⟩ <;> simp only [aD,d,aw,binOp,heq _ _ _ hf] <;> rfl
 ·exact h.elim
include hT in
theorem T9 {op} {t} {p q} {x y} {u v} (h:yj T op t x y K) (hx:RC c x u) (hy:RC c y v) :
  ∃ r z,((do eqGuard op t p q u v; binOp op t u v:Sem Value)).run Γ.P w = .ok r w/\RC c z r/\K z:=by
 cases x with
 | int k m=>
  cases y with
  | int k' n=>
   rw [hx.int,hy.int];obtain ⟨r,z,h1,h2,N⟩:=Ua (Γ:=Γ) (w:=w) (c:=c) h;grind [Sem.run_bind,IL,Result.andThen_ok]
  | _=>exact h.elim
 | bool m=>
  cases y with
  | bool n=>
   rw [hx.bool,hy.bool];unfold yj at h;simp only at h;split at h
   ·rename_i i G;obtain ⟨H,h⟩:=pz h;have j:=HD hT G (aj H);refine ⟨_,_,?_,eZ _,h⟩;simp only [aD,uB,aw,binOp,Op.equal,Op.maxDepth,run_equalIn_bool' w 9999 t m n j];rfl
   ·rename_i i G;obtain ⟨H,h⟩:=pz h;have j:=HD hT G (aj H);refine ⟨_,_,?_,eZ _,h⟩;simp only [aD,uB,aw,binOp,Op.equal,Op.maxDepth,run_equalIn_bool' w 9999 t m n j];rfl
   ·exact h.elim
  | _=>exact h.elim
 | agg L=>
  cases y with
  | agg J=>
   obtain ⟨xs,rfl,E,_,A⟩:=hx;obtain ⟨F,rfl,B,_,D⟩:=hy;unfold yj at h;simp only at h;split at h
   ·split at h
    ·rename_i b j;obtain ⟨d,l⟩:=th (c:=c) (w:=w) hT 4 t L J xs F b j ⟨E,A⟩ ⟨B,D⟩;have l:=l 9998 ar;refine ⟨_,_,?_,eZ _,h⟩;simp only [aD,run_eqGuard_agg w _ t p q xs F d,aw,run_eql_struct,l]
    ·exact h.elim
   ·split at h
    ·rename_i b j;obtain ⟨d,l⟩:=th (c:=c) (w:=w) hT 4 t L J xs F b j ⟨E,A⟩ ⟨B,D⟩;have l:=l 9998 ar;refine ⟨_,_,?_,eZ _,h⟩;simp only [aD,run_eqGuard_agg w _ t p q xs F d,aw,run_neq_struct,l]
    ·exact h.elim
   ·exact h.elim
  | _=>exact h.elim
 | lit M=>
  cases y with
  | lit v0=>
   obtain rfl:u=M:=by cases (show RD c.m (.lit M) u from hx); rfl
   obtain rfl:v=v0:=by cases (show RD c.m (.lit v0) v from hy); rfl
   unfold yj at h;simp only at h;split at h
   ·exact zm hT h (.inl ⟨rfl,rfl⟩)
   ·exact h.elim
  | _=>exact h.elim
 | clo f cap=>
  cases y with
  | lit v0=>
   obtain rfl:v=v0:=by cases (show RD c.m (.lit v0) v from hy); rfl
   unfold yj at h;simp only at h;split at h
   ·exact zm hT h (.inr ⟨by cases (show RD c.m (.clo f cap) u from hx); exact ⟨_,_,_,rfl⟩,rfl⟩)
   ·exact h.elim
  | _=>exact h.elim
 | fn f=>
  cases y with
  | lit v0=>
   obtain rfl:v=v0:=by cases (show RD c.m (.lit v0) v from hy); rfl
   unfold yj at h;simp only at h;split at h
   ·exact zm hT h (.inr ⟨by cases (show RD c.m (.fn f) u from hx); exact ⟨_,_,_,rfl⟩,rfl⟩)
   ·exact h.elim
  | _=>exact h.elim
 | _=>exact h.elim
end
open Go
theorem It:∀ {x y:List Int},y.map (Value.int .i64)=x.map (Value.int .i64)->x=y
 | [],[],_=>rfl
 | [],b::y,h=>by simp at h
 | a::x,[],h=>by simp at h
 | a::x,b::y,h=>by simp only [cp,gy,Value.int.injEq,true_and] at h; rw [h.1,It h.2]
theorem ur {x y} (h:d9 y=d9 x):x=y:=by
 simp only [d9,Value.agg.injEq] at h;exact It (ax Array.toList h)
theorem C4:∀ (l:List (Nat×Nat)) (m n:Nat),HL l m n=true->m<=n
 | [],m,n,h=>Nat.le_of_eq (aj h)
 |(o,_)::r,m,n,h=>by
  simp only [HL,al] at h;exact Nat.le_of_succ_le (C4 r _ _ h.2)
theorem NW:∀ (l:List (Nat×Nat)) (m n:Nat),HL l m n=true->∀ p∈l,p.1<n
 | [],m,n,h,p,a=>by cases a
 |(o,_)::r,m,n,h,p,a=>by
  simp only [HL,al] at h;rcases bF.1 a with rfl | a
  ·have:=C4 r _ _ h.2;grind [Nat.eq_of_beq_eq_true]
  ·exact NW r _ _ h.2 p a
theorem Ib (x:List Int) {m} (h):qj (x.map (AV.int .i64)) m=some (.int .i64 x[m]):=by rw [fj]; simp [h]
theorem uD:∀ (l:List (Nat×Nat)) (m n:Nat) (x y:List Int),HL l m n=true->x.length=n->y.length=n ->
  nz l (x.map (AV.int .i64)) (y.map (AV.int .i64))=some (decide (x.drop m=y.drop m))
 | [],m,n,x,y,h,hx,hy=>by
  have:=aj h;rw [nz,dg ar,dg ar];rfl
 |(o,t)::r,m,n,x,y,h,hx,hy=>by
  simp only [HL,al] at h;have h1:=aj h.1;have h2:=C4 r _ _ h.2;subst h1;simp only [nz,Ib x (show o<x.length by omega),Ib y (show o<y.length by omega),uD r _ _ x y h.2 hx hy];rw [dq (show o<x.length by omega),dq (show o<y.length by omega)];simp only [ww,aR,aB,gy];grind
def abk:dE:=⟨fun _=>0,fun _ => .slice none 0 0,fun _=>0,⟨fun _ _=>none,fun _=>none⟩,fun _=>none,fun _=>(0,0)⟩
theorem o6 (x:List Int):(x.map (AV.int .i64)).length=(x.map (Value.int .i64)).toArray.size/\∀ (i:Nat) (y:AV) (u:Value),(x.map (AV.int .i64))[i]?=some y->((x.map (Value.int .i64)).toArray)[i]?=some u->fp abk y u:=by
 refine ⟨by simp,fun i y u h1 h2=>?_⟩;simp only [aQ,aA,eN] at h1 h2;obtain ⟨a,d,rfl⟩:=h1;obtain ⟨b,c,rfl⟩:=h2;rw [d] at c;cases c;exact RD.int _ _
section
variable {Γ:ce} {T:eS} (hT:T.OK Γ.P) {w:World}
include hT
theorem A2 {t} {i} (g:get T t=some i) (a:ut i=true) (x y) (hx:x.length=i.size) (hy:y.length=i.size):(Op.equal t (d9 x) (d9 y)).run Γ.P w = .ok (decide (x=y)) w:=by
 simp only [ut,al] at a;obtain ⟨c,hu,b,h,d,hf⟩:=tQ hT g a.1;have e:Γ.P.fieldsOf t=c:=by simp [Program.fieldsOf,hu]
 have he:=uD _ _ _ x y a.2 hx hy;rw [b] at he;have f:=uC (w:=w) c.toList hf (o6 x) (o6 y) 9998 _ he;grind [d9,Op.equal,Op.maxDepth,run_equalIn_struct]
theorem A4 {t} {i} (g:get T t=some i) (c:ut i=true) (x) (hx:x.length=i.size) (em):(Instr.checkKey em 10000 t (d9 x)).run Γ.P w = .ok () w:=by
 simp only [ut,al] at c;obtain ⟨d,hu,j,n,e,hf⟩:=tQ hT g c.1
 have a:∀ f∈d.toList,f.offset<x.length:=fun f h=>by
  have:=NW _ _ _ c.2 (f.offset,f.type) (by grind);simp only at this; omega
 rw [show (10000:Nat)=9999+1 from rfl,d9,Instr.checkKey];simp only [aD,aY hu,aw];rw [<- Array.forIn_toList];generalize d.toList=L at hf a
 induction L with
 | nil=>simp
 | cons f L m=>
  obtain ⟨l,k,b⟩:=hf f cU;have hl:=a f cU
  have p1:(part f.type (x.map (Value.int .i64)).toArray f.offset).run Γ.P w = .ok (.int .i64 (x[f.offset])) w:=by
   simp [part,isAgg,aY b,aQ,hl]
  have p2:(Instr.checkKey em 9999 f.type (.int .i64 (x[f.offset]))).run Γ.P w = .ok () w:=by
   rw [show (9999:Nat)=9998+1 from rfl,Instr.checkKey];simp only [aD,aY b,aw,aL]
  simp only [List.forIn_cons,aD,l,AN,vK,c5,aw,p1,p2,aL];exact m (fun y hy=>hf y (by simp [hy])) (fun y hy=>a y (by simp [hy]))
theorem mK {t:TypeId} {i:TI} (g:get T t=some i) (l:ut i=true) (x:List Int) (hx:x.length=i.size):∀ (es:List MapEntry) (n:Nat),(∀ e∈es,∃ y:List Int,e.key=d9 y/\y.length=i.size) ->
  ((Instr.findAsking t (d9 x) es n).run Γ.P w = .ok none w/\∀ e∈es,e.key≠d9 x)\/∃ j e,(Instr.findAsking t (d9 x) es n).run Γ.P w = .ok (some (n+j,e.val)) w/\es[j]?=some e/\e.key=d9 x
 | [],n,_ => .inl ⟨by simp [Instr.findAsking],by simp⟩
 | e::es,n,h=>by
  obtain ⟨y,hy,d⟩:=h e cU;have f:=A2 (w:=w) hT g l x y hx d;by_cases a:x=y
  ·refine .inr ⟨0,e,?_,rfl,by rw [hy,a]⟩;simp only [Instr.findAsking,aD,hy,f,aw,dQ a,c5,aL,ee]
  ·have m:e.key≠d9 x:=fun p=>by
    grind [d9,Value.agg.injEq,ur]
   have c:∀ r,(Instr.findAsking t (d9 x) es (n+1)).run Γ.P w=r->(Instr.findAsking t (d9 x) (e::es) n).run Γ.P w=r:=fun r b=>by
    simp only [Instr.findAsking,aD,hy,f,aw,a,decide_false,bv,cu,b]
   rcases mK g l x hx es (n+1) (fun e he=>h e (by simp [he])) with ⟨h1,h2⟩ | ⟨j,e',h1,h2,o⟩
   ·grind
   ·exact .inr ⟨j+1,e',by grind,by simpa using h2,o⟩
theorem x8 {t} {i} (g:get T t=some i) (a:ut i=true) (x) (hx:x.length=i.size) (es) (h:∀ e∈es,∃ y:List Int,e.key=d9 y/\y.length=i.size) :
  ((Instr.findKey t (d9 x) es).run Γ.P w = .ok none w/\∀ e∈es,e.key≠d9 x)\/∃ j e,(Instr.findKey t (d9 x) es).run Γ.P w = .ok (some (j,e.val)) w/\es[j]?=some e/\e.key=d9 x:=by
 have hk':=a;simp only [ut,al] at hk';obtain ⟨c,hu,_⟩:=tQ hT g hk'.1
 cases es with
 | nil=>exact .inl ⟨by simp [Instr.findKey,aY hu,Instr.findNow],by simp⟩
 | cons e es=>
  have d:Instr.findNow (.struct c) (d9 x) (e::es) 0=none:=by simp [Instr.findNow,Instr.sameNow]
  have he:∀ r,(Instr.findAsking t (d9 x) (e::es) 0).run Γ.P w=r->(Instr.findKey t (d9 x) (e::es)).run Γ.P w=r:=fun r b=>by
   simp only [Instr.findKey,aD,aY hu,aw,d,b]
  rcases mK (w:=w) hT g a x hx (e::es) 0 h with ⟨h1,h2⟩ | ⟨j,e',h1,h2,f⟩
  ·grind
  grind
theorem mL {t:TypeId} {b:Nat} (heq:∀ x y:List Int,x.length=b->y.length=b->(Op.equal t (d9 x) (d9 y)).run Γ.P w = .ok (decide (x=y)) w) (x:List Int) (hx:x.length=b):∀ (es:List MapEntry) (n:Nat),(∀ e∈es,∃ y:List Int,e.key=d9 y/\y.length=b) ->
  ((Instr.findAsking t (d9 x) es n).run Γ.P w = .ok none w/\∀ e∈es,e.key≠d9 x)\/∃ j e,(Instr.findAsking t (d9 x) es n).run Γ.P w = .ok (some (n+j,e.val)) w/\es[j]?=some e/\e.key=d9 x
 | [],n,_ => .inl ⟨by simp [Instr.findAsking],by simp⟩
 | e::es,n,h=>by
  obtain ⟨y,hy,f⟩:=h e cU;have i:=heq x y hx f;by_cases a:x=y
  ·refine .inr ⟨0,e,?_,rfl,by rw [hy,a]⟩;simp only [Instr.findAsking,aD,hy,i,aw,dQ a,c5,aL,ee]
  ·have l:e.key≠d9 x:=fun o=>by
    grind
   have d:∀ r,(Instr.findAsking t (d9 x) es (n+1)).run Γ.P w=r->(Instr.findAsking t (d9 x) (e::es) n).run Γ.P w=r:=fun r c=>by
    simp only [Instr.findAsking,aD,hy,i,aw,a,decide_false,bv,cu,c]
   rcases mL heq x hx es (n+1) (fun e he=>h e (by simp [he])) with ⟨h1,h2⟩ | ⟨j,e',h1,h2,m⟩
   ·grind
   ·exact .inr ⟨j+1,e',by grind,by simpa using h2,m⟩
omit hT in
theorem xy:∀ (x y:List Int),x.length=y.length->ph x.length (x.map (AV.int .i64)) (y.map (AV.int .i64))=some (decide (x=y))
 | [],[],_=>rfl
 | a::x,b::y,h=>by
  have c:=xy x y (by simpa using h);simp only [bt,cp,ph,c,ww,aR,aB,gy];grind
theorem A3 {t} {i} (g:get T t=some i) (a:qQ i=true) (x y) (hx:x.length=i.arr) (hy:y.length=i.arr):(Op.equal t (d9 x) (d9 y)).run Γ.P w = .ok (decide (x=y)) w:=by
 simp only [qQ,al] at a;obtain ⟨e,j,k,hu,b,he,c,h⟩:=tR hT g a.1 a.2.1;have f:=xy x y ar;rw [hx] at f;have l:=pg (w:=w) he (o6 x) (o6 y) 9998 i.arr 0 _ (by simpa using f);have d:=VB w 9999 (x.map (Value.int .i64)).toArray (y.map (Value.int .i64)).toArray hu b;rw [c,c6] at d;rw [show (9999:Nat)=9998+1 from rfl] at d;grind [d9,Op.equal,Op.maxDepth]
theorem A5 {t} {i} (g:get T t=some i) (c:qQ i=true) (x) (hx:x.length=i.arr) (em):(Instr.checkKey em 10000 t (d9 x)).run Γ.P w = .ok () w:=by
 simp only [qQ,al] at c;obtain ⟨e,n,k,hu,b,he,l,m⟩:=tR hT g c.1 c.2.1;rw [show (10000:Nat)=9999+1 from rfl,d9,Instr.checkKey];simp only [aD,aY hu,aw]
 have d:(sizeOf e).run Γ.P w = .ok 1 w:=by
  have f:n.size=1:=by simpa [Program.cellsOf,b] using l
  simp [sizeOf,typeInfo,b,f]
 rw [Std.Legacy.Range.forIn_eq_forIn_range']
 have a:∀ j∈List.range' 0 i.arr 1,j<x.length:=fun j hj=>by
  grind
 have h:(Std.Legacy.Range.size [0:i.arr])=i.arr:=by simp [Std.Legacy.Range.size]
 rw [h];generalize List.range' 0 i.arr 1=L at a
 induction L with
 | nil=>simp
 | cons j L o=>
  have hl:=a j cU
  have p1:(part e (x.map (Value.int .i64)).toArray (j*1)).run Γ.P w = .ok (.int .i64 (x[j])) w:=by
   simp [part,isAgg,aY he,aQ,hl]
  have p2:(Instr.checkKey em 9999 e (.int .i64 (x[j]))).run Γ.P w = .ok () w:=by
   rw [show (9999:Nat)=9998+1 from rfl,Instr.checkKey];simp only [aD,aY he,aw,aL]
  simp only [List.forIn_cons,aD,d,aw,p1,p2,aL];exact o (fun y hy=>a y (by simp [hy]))
theorem x9 {t} {i} (g:get T t=some i) (a:qQ i=true) (x) (hx:x.length=i.arr) (es) (h:∀ e∈es,∃ y:List Int,e.key=d9 y/\y.length=i.arr) :
  ((Instr.findKey t (d9 x) es).run Γ.P w = .ok none w/\∀ e∈es,e.key≠d9 x)\/∃ j e,(Instr.findKey t (d9 x) es).run Γ.P w = .ok (some (j,e.val)) w/\es[j]?=some e/\e.key=d9 x:=by
 have heq:=fun x y hx hy=>A3 (w:=w) hT g a x y hx hy;simp only [qQ,al] at a;obtain ⟨c,o,k0,hu,m,f,n,b⟩:=tR hT g a.1 a.2.1
 cases es with
 | nil=>exact .inl ⟨by simp [Instr.findKey,aY hu,Instr.findNow],by simp⟩
 | cons e es=>
  have l:Instr.findNow (.array i.arr c) (d9 x) (e::es) 0=none:=by simp [Instr.findNow,Instr.sameNow]
  have he:∀ r,(Instr.findAsking t (d9 x) (e::es) 0).run Γ.P w=r->(Instr.findKey t (d9 x) (e::es)).run Γ.P w=r:=fun r d=>by
   simp only [Instr.findKey,aD,aY hu,aw,l,d]
  rcases mL (w:=w) hT heq x hx (e::es) 0 h with ⟨h1,h2⟩ | ⟨j,e',h1,h2,p⟩
  ·grind
  grind
omit hT in
theorem sr (x):(Instr.keyThatStays (d9 x) (d9 x)).run Γ.P w = .ok (d9 x) w:=by
 have b:Instr.sameBits 10000 (d9 x) (d9 x)=true:=by
  show Instr.sameBits (9999+1) (.agg _) (.agg _)=true;simp only [Instr.sameBits,ea,bG,aN];intro p a;obtain ⟨i,hi,e⟩:=cw a;rw [List.getElem_zip] at e;rw [<- e];simp [Instr.sameBits]
 simp [Instr.keyThatStays,b]
end
def sf (sk:Bool) (a:List Int):Value:=bif sk then d9 a else (match a with | n::_ => .int .i64 n | []=>Go.undef)
structure X1 (P:Program) (a:TypeId) (sk:Bool) (n:Nat):Prop where
 find:∀ (w:World) (x:List Int),x.length=n->∀ es:List MapEntry,(∀ e∈es,∃ y:List Int,e.key=sf sk y/\y.length=n) ->
  ((Instr.findKey a (sf sk x) es).run P w = .ok none w/\∀ e∈es,e.key≠sf sk x)\/∃ j e,(Instr.findKey a (sf sk x) es).run P w = .ok (some (j,e.val)) w/\es[j]?=some e/\e.key=sf sk x
 check:∀ (w:World) (b:Bool) (x:List Int),x.length=n->(Instr.checkKey b 10000 a (sf sk x)).run P w = .ok () w
 stays:∀ (w:World) (x:List Int),x.length=n->(Instr.keyThatStays (sf sk x) (sf sk x)).run P w = .ok (sf sk x) w
 inj:∀ x y:List Int,x.length=n->y.length=n->sf sk x=sf sk y->x=y
 pos:sk=false->n=1
theorem ml {x:List Int} (h:x.length=1):∃ n,x=[n]:=List.length_eq_one_iff.1 h
theorem Dz {P} {kt} (h2:P.underlying kt=some (.int .i64)) (w) (x) (es) (h:∀ e∈es,∃ y:Int,e.key = .int .i64 y) :
  ((Instr.findKey kt (.int .i64 x) es).run P w = .ok none w/\∀ e∈es,e.key≠.int .i64 x)\/∃ j e,(Instr.findKey kt (.int .i64 x) es).run P w = .ok (some (j,e.val)) w/\es[j]?=some e/\e.key = .int .i64 x:=by
 have key:∀ (es:List MapEntry) (n:Nat),(∀ e∈es,∃ y:Int,e.key = .int .i64 y)->(Instr.findNow (.int .i64) (.int .i64 x) es n=some none/\∀ e∈es,e.key≠.int .i64 x) \/
   ∃ j e,Instr.findNow (.int .i64) (.int .i64 x) es n=some (some (n+j,e.val))/\es[j]?=some e/\e.key = .int .i64 x:=by
  intro es
  induction es with
  | nil=>intro n _; exact .inl ⟨rfl,by simp⟩
  | cons e r c=>
   intro n h;obtain ⟨y,hy⟩:=h e cU;by_cases hx:x=y
   ·refine .inr ⟨0,e,?_,rfl,by rw [hy,hx]⟩;simp [Instr.findNow,Instr.sameNow,hy,hx]
   ·have b:Instr.sameNow (.int .i64) (.int .i64 x) e.key=some false:=by simp [Instr.sameNow,hy,hx]
    rcases c (n+1) (fun e he=>h e (by simp [he])) with ⟨h1,h2⟩ | ⟨j,e',h1,h2,a⟩
    ·refine .inl ⟨by simp only [Instr.findNow,b,h1],fun e' he=>?_⟩;grind
    ·exact .inr ⟨j+1,e',by grind [Instr.findNow],by simpa using h2,a⟩
 rcases key es 0 h with ⟨h1,a⟩ | ⟨j,e,h1,a,d⟩
 ·exact .inl ⟨by simp only [Instr.findKey,aD,aY h2,aw,h1,aL],a⟩
 ·exact .inr ⟨j,e,by simp only [Instr.findKey,aD,aY h2,aw,h1,aL,bI],a,d⟩
theorem Wy {k} (h:Yt k=true):k = .i64:=by cases k <;> first | rfl | cases h
theorem tc {P} {T:eS} (hT:T.OK P) {kt} {i} {sk} {n} (g:get T kt=some i) (h:ny i=some (sk,n)):X1 P kt sk n:=by
 unfold ny at h
 cases h1:(Nat.beq i.kind 4&&Yt i.ik) with
 | true=>
  rw [h1] at h;cases h;rw [al] at h1;have hu:P.underlying kt=some (.int .i64):=by rw [NO hT g (aj h1.1),Wy h1.2]
  refine ⟨fun w x hx es he=>?_,fun w b x hx=>?_,fun w x hx=>?_,fun x y hx hy h=>?_,fun _=>rfl⟩
  ·obtain ⟨m,rfl⟩:=ml hx
   exact Dz hu w m es fun e c=>by
    obtain ⟨y,a,f⟩:=he e c;obtain ⟨z,rfl⟩:=ml f;exact ⟨z,a⟩
  ·obtain ⟨m,rfl⟩:=ml hx;show (Instr.checkKey b (9999+1) kt (.int .i64 m)).run P w=_;rw [Instr.checkKey];simp only [aD,aY hu,aw,aL]
  ·obtain ⟨m,rfl⟩:=ml hx;show (Instr.keyThatStays (.int .i64 m) (.int .i64 m)).run P w=_
   have d:Instr.sameBits 10000 (.int .i64 m) (.int .i64 m)=true:=by
    rw [show (10000:Nat)=9999+1 from rfl];simp [Instr.sameBits]
   simp [Instr.keyThatStays,d,sf]
  ·obtain ⟨m,rfl⟩:=ml hx;obtain ⟨m',rfl⟩:=ml hy;simp only [sf,br,Value.int.injEq,true_and] at h;rw [h]
 | false=>
  rw [h1,br] at h;have g2:∀ w:World,∃ Γ:ce,Γ.P=P:=fun w=>⟨⟨P,Fence.wide,0,w,⟨fun _ _=>none,fun _=>none⟩,0⟩,rfl⟩
  cases h2:ut i with
  | false=>
   rw [h2,br] at h
   cases a:qQ i with
   | false=>rw [a] at h; cases h
   | true=>
    rw [a] at h;cases h;refine ⟨fun w x hx es he=>?_,fun w b x hx=>?_,fun w x _=>?_,fun x y _ _ h=>ur h.symm,fun h=>nomatch h⟩
    ·obtain ⟨Γ,rfl⟩:=g2 w;exact x9 (w:=w) hT g a x hx es he
    ·obtain ⟨Γ,rfl⟩:=g2 w;exact A5 (w:=w) hT g a x hx b
    ·obtain ⟨Γ,rfl⟩:=g2 w;exact sr (Γ:=Γ) (w:=w) x
  | true=>
   rw [h2] at h;cases h;have g2:∀ w:World,∃ Γ:ce,Γ.P=P:=fun w=>⟨⟨P,Fence.wide,0,w,⟨fun _ _=>none,fun _=>none⟩,0⟩,rfl⟩;refine ⟨fun w x hx es he=>?_,fun w b x hx=>?_,fun w x _=>?_,fun x y _ _ h=>ur h.symm,fun h=>nomatch h⟩
   ·obtain ⟨Γ,rfl⟩:=g2 w;exact x8 (w:=w) hT g h2 x hx es he
   ·obtain ⟨Γ,rfl⟩:=g2 w;exact A4 (w:=w) hT g h2 x hx b
   ·obtain ⟨Γ,rfl⟩:=g2 w;exact sr (Γ:=Γ) (w:=w) x
section
variable {P:Program} {w:World}
theorem t8 {mt kt et} {sk} {n} (a:X1 P kt sk n) (hm:P.underlying mt=some (.map kt et)) (x) (hx:x.length=n) {b} {es} {clock} (v) (c:w.heap[b]?=some (.map es clock))
  (h:∀ e∈es.toList,∃ y:List Int,e.key=sf sk y/\y.length=n) :
  ((Instr.mapUpdate mt (.map (some b)) (sf sk x) v).run P w = .ok () (w.putObj b (.map (es.push ⟨sf sk x,v,clock⟩) (clock+1)))/\∀ e∈es.toList,e.key≠sf sk x) \/
  ∃ j e,(Instr.mapUpdate mt (.map (some b)) (sf sk x) v).run P w = .ok () (w.putObj b (.map (es.modify j fun e=>{ e with key:=sf sk x,val:=v }) clock))/\es[j]?=some e/\e.key=sf sk x:=by
 rcases a.find w x hx es.toList h with ⟨h1,h2⟩ | ⟨j,e,h1,h2,d⟩
 ·refine .inl ⟨?_,h2⟩;simp only [Instr.mapUpdate,aD,aY hm,aw,cY c,a.check w false x hx,h1,oN _ c];rfl
 ·refine .inr ⟨j,e,?_,by simpa using h2,d⟩;have h2':es[j]?=some e:=by simpa using h2
  simp only [Instr.mapUpdate,aD,aY hm,aw,cY c,a.check w false x hx,h1,h2',bH,lL,d,a.stays w x hx,oN _ c];rfl
end
open Go
section
variable {Γ:ce} {T:eS} (hT:T.OK Γ.P) {C:FuncId->List AV->AV->Prop} {bx:List (Nat×List AV)} {e:Operand->AV} {K:AV->Prop} {o:Oper} {a:Act} {w:World} {c:dE} {ty:TypeId}
theorem X7 {x} (h:gG T C bx e ty (.move x) K) (d:o.op = .move x) (b:RC c (e x) (a.eval x)):fY Γ c a w o K:=
 ⟨_,_,by simp only [execOp,d]; rfl,b,h⟩
theorem R9 {x} (h:gG T C bx e ty (.assign x) K) (d:o.op = .assign x) (b:RC c (e x) (a.eval x)):fY Γ c a w o K:=
 ⟨_,_,by simp only [execOp,d]; rfl,b,h⟩
theorem X6 {x y z} (h:gG T C bx e ty (.pick x y z) K) (b:o.op = .pick x y z) (hx:RC c (e x) (a.eval x)) (hy:RC c (e y) (a.eval y)) (hz:RC c (e z) (a.eval z)):fY Γ c a w o K:=by
 unfold gG at h;simp only at h;split at h
 ·rename_i t d;rw [d] at hx
  cases t with
  | true=>exact ⟨a.eval y,_,by simp [execOp,b,hx.bool,asBool],hy,h⟩
  | false=>exact ⟨a.eval z,_,by simp [execOp,b,hx.bool,asBool],hz,h⟩
 ·exact h.elim
include hT in
theorem VM {op} {t t'} {x y} (h:gG T C bx e ty (.binOp op t x y t') K) (b:o.op = .binOp op t x y t') (hx:RC c (e x) (a.eval x)) (hy:RC c (e y) (a.eval y)):fY Γ c a w o K:=by
 obtain ⟨r,z,h1,h2,d⟩:=T9 hT (p:=x) (q:=y) (w:=w) (show yj T op t (e x) (e y) K from h) hx hy;refine ⟨r,z,?_,h2,d⟩;simp only [execOp,b,aD] at h1 ⊢;rw [h1]; rfl
theorem X5 {op} {t} {x} (h:gG T C bx e ty (.unOp op t x) K) (b:o.op = .unOp op t x) (hx:RC c (e x) (a.eval x)):fY Γ c a w o K:=by
 obtain ⟨r,z,h1,h2,d⟩:=VR (Γ:=Γ) (w:=w) (show Zf op (e x) K from h) hx;exact ⟨r,z,by simp only [execOp,b,aD,h1]; rfl,h2,d⟩
theorem lh {m} {k b off} {cs} {v} (h:RD m (.pin k b off cs) v):v = .pointer (some ⟨b,off,none⟩)/\RD m (.ref cs) (.pointer (some ⟨b,off,none⟩)):=by
 cases h with | pin _ _ _ _ f g hm d=>exact ⟨rfl,.ref _ _ _ f g hm d⟩
theorem RD.ref_pin {m} {b off} {cs} (k) (h:RD m (.ref cs) (.pointer (some ⟨b,off,none⟩))):RD m (.pin k b off cs) (.pointer (some ⟨b,off,none⟩)):=by
 cases h with | ref _ _ _ f g hm d=>exact .pin _ _ _ _ f g hm d
include hT in
theorem X8 {t} {x} (q:WI Γ c bx w) (h:gG T C bx e ty (.load t x) K) (r:o.op = .load t x) (hx:RC c (e x) (a.eval x)):fY Γ c a w o K:=by
 unfold gG at h;simp only at h;split at h
 ·exact h.elim
 ·rename_i i hi;split at h
  ·rename_i d off hl;split at h
   ·rename_i cs p;split at h
    ·rename_i v hv;rw [hl] at hx;obtain ⟨vals,g1,g2,g3,g4⟩:=Cy q p off;obtain ⟨u,l,j⟩:=jQ hT hi g1 g2 g3 g4 hv;refine ⟨u,v,?_,j,h⟩;simp only [execOp,r,hx.loc,aD,Instr.loadAt,Instr.sureAddr,aL,aw,l]
    ·exact h.elim
   ·exact h.elim
  ·rename_i cs hl;split at h
   ·rename_i v hv;rw [hl] at hx;have hx':RD c.m (.ref cs) (a.eval x):=hx;have f:=hx';generalize n:a.eval x=z at hx' f
    cases hx' with
    | ref _ b off A g hm y=>
     obtain ⟨vals,g1,g2,g3,g4⟩:=wg q.sub f;obtain ⟨u,l,j⟩:=jQ hT hi g1 g2 g3 g4 hv;refine ⟨u,v,?_,j,h⟩;grind [execOp,Sem.run_bind,Instr.loadAt,Instr.sureAddr,Sem.run_pure,Result.andThen_ok]
   ·exact h.elim
  ·rename_i k b off cs hl;split at h
   ·rename_i v hv;rw [hl] at hx;obtain ⟨n,f⟩:=lh (show RD c.m (.pin k b off cs) (a.eval x) from hx);obtain ⟨vals,g1,g2,g3,g4⟩:=wg q.sub f;obtain ⟨u,l,j⟩:=jQ hT hi g1 g2 g3 g4 hv;refine ⟨u,v,?_,j,h⟩;grind [execOp,Sem.run_bind,Instr.loadAt,Instr.sureAddr,Sem.run_pure,Result.andThen_ok]
   ·exact h.elim
  ·exact h.elim
theorem Lz {x} (h:gG T C bx e ty (.nilCheck x) K) (f:o.op = .nilCheck x) (hx:RC c (e x) (a.eval x)):fY Γ c a w o K:=by
 unfold gG at h;simp only at h;split at h
 ·rename_i d off hl;rw [hl] at hx;refine ⟨_,_,?_,hx,h⟩;simp only [execOp,f,hx.loc,aL,aw]
 ·rename_i cs hl;rw [hl] at hx;have hx':RD c.m (.ref cs) (a.eval x):=hx
  obtain ⟨b,i,hv⟩:∃ b off,a.eval x = .pointer (some ⟨b,off,none⟩):=by
   generalize a.eval x=v at hx';cases hx' with | ref _ b off=>exact ⟨b,off,rfl⟩
  refine ⟨_,_,?_,hx,h⟩;simp only [execOp,f,hv,aL,aw]
 ·rename_i k b off cs hl;rw [hl] at hx;obtain ⟨hv,_⟩:=lh (show RD c.m (.pin k b off cs) (a.eval x) from hx);refine ⟨_,_,?_,hx,h⟩;simp only [execOp,f,hv,aL,aw]
 ·exact h.elim
theorem RD.ref_inv {m} {cs} {v} (h:RD m (.ref cs) v):∃ b off,v = .pointer (some ⟨b,off,none⟩):=by
 cases h with | ref _ b off=>exact ⟨b,off,rfl⟩
theorem RD.ref_drop {m} {cs} {b off} (h:RD m (.ref cs) (.pointer (some ⟨b,off,none⟩))) (k):RD m (.ref (cs.drop k)) (.pointer (some ⟨b,off+k,none⟩)):=by
 cases h with
 | ref _ _ _ d g hm f=>
  refine .ref _ _ _ (fun x hx=>d x (gh hx)) (fun i=>g (k+i)) (fun i x hi=>?_) (fun i x hi=>?_)
  ·grind
  grind
include hT in
theorem kq {ft} {j} (hj:get T ft=some j) (d:Nat.beq j.size 0=false) {f} (hf:f.type=ft) (b off):(fieldPlace ⟨b,off,none⟩ f).run Γ.P w = .ok ⟨b,off+f.offset,none⟩ w:=by
 have i:j.size≠0:=fun h=>by rw [h] at d; cases d
 simp only [fieldPlace,hf,aD,eQ hT hj,aw,aV i,aL,fm]
include hT in
theorem Hr {t} {x} {f} (h:gG T C bx e ty (.fieldAddr t x f) K) (r:o.op = .fieldAddr t x f) (hx:RC c (e x) (a.eval x)):fY Γ c a w o K:=by
 unfold gG at h;simp only at h;split at h
 ·exact h.elim
 rename_i i hi
 cases z:Nat.beq i.kind 1 with
 | false=>grind
 | true=>
  rw [z] at h;simp only [aR] at h;obtain ⟨A,hu,u⟩:=oV hT hi (aj z);split at h
  ·exact h.elim
  rename_i off ft y;rw [fj,u,aQ] at y;obtain ⟨fd,v,q⟩:=aA.1 y;simp only [er] at q;obtain ⟨rfl,rfl⟩:=q;have hfd':A[f]?=some fd:=by simpa using v
  split at h
  ·exact h.elim
  rename_i j hj
  cases p:Nat.beq j.size 0 with
  | true=>grind
  | false=>
   rw [p] at h;simp only [br] at h;split at h
   ·rename_i d l hl;rw [hl] at hx;refine ⟨.pointer (some ⟨c.ρ d,l+fd.offset,none⟩),.loc d (l+fd.offset),?_,rfl,h⟩;simp only [execOp,r,hx.loc,Instr.fieldAt,aD,aY hu,aw,hfd',Instr.sureAddr,aL,kq hT hj p rfl]
   ·rename_i cs hl;rw [hl] at hx;have n:RD c.m (.ref cs) (a.eval x):=hx;obtain ⟨b,l,hv⟩:=n.ref_inv;rw [hv] at n;refine ⟨.pointer (some ⟨b,l+fd.offset,none⟩),.ref (cs.drop fd.offset),?_,n.ref_drop fd.offset,h⟩;simp only [execOp,r,hv,Instr.fieldAt,aD,aY hu,aw,hfd',Instr.sureAddr,aL,kq hT hj p rfl]
   ·rename_i k b l cs hl;rw [hl] at hx;obtain ⟨hv,n⟩:=lh (show RD c.m (.pin k b l cs) (a.eval x) from hx);refine ⟨.pointer (some ⟨b,l+fd.offset,none⟩),.pin k b (l+fd.offset) (cs.drop fd.offset),?_,(n.ref_drop fd.offset).ref_pin k,h⟩;simp only [execOp,r,hv,Instr.fieldAt,aD,aY hu,aw,hfd',Instr.sureAddr,aL,kq hT hj p rfl]
   ·exact h.elim
include hT in
theorem HR {t} {i} (g:get T t=some i) {vs} {cs:List AV} {off} (hl:cs.length=vs.size) (p:∀ x∈cs,x.isCell=true) (r:∀ (i:Nat) (x:AV) (u:Value),cs[i]?=some x->vs[i]?=some u->fp c x u)
  (z:off+i.size<=cs.length) {x} (h:eO i (cs.drop off)=some x):∃ v,(part t vs off).run Γ.P w = .ok v w/\RC c x v:=by
 unfold eO at h;have d:=NP hT g w
 cases n:(Nat.beq i.kind 1||Nat.beq i.kind 2) with
 | true=>
  rw [n] at h d;simp only [aR] at h
  cases m:Nat.ble i.size (cs.drop off).length with
  | false=>rw [m] at h; cases h
  | true=>
   rw [m] at h;simp only [aR,aB] at h;refine ⟨.agg (vs.extract off (off+i.size)),by simp only [part,aD,d,aw,c5,eQ hT g,aL],?_⟩;subst h;refine ⟨_,rfl,by simp; omega,fun y hy=>p y (gh (dy hy)),fun j y u h1 h2=>?_⟩;grind
 | false=>
  rw [n] at h d;simp only [br] at h;split at h
  ·rename_i y A q;simp only [aB] at h;subst h
   have f:cs[off]?=some y:=by
    have:=ax (fun l=>l[0]?) q;simpa [da] using this
   have b:off<vs.size:=by have:=(am.1 f).1; omega
   refine ⟨vs[off],by simp only [part,aD,d,aw,bv,cu,aE b,aL],?_⟩;have h1:=r off y _ f (aE b);refine (ec ?_).2 h1;rintro ds rfl;exact absurd (p _ (aC f)) (by simp [AV.isCell])
  ·cases h
include hT in
theorem VK {t} {x} {f} (h:gG T C bx e ty (.field t x f) K) (z:o.op = .field t x f) (hx:RC c (e x) (a.eval x)):fY Γ c a w o K:=by
 unfold gG at h;simp only at h;split at h
 ·exact h.elim
 rename_i i hi
 cases y:Nat.beq i.kind 1 with
 | false=>grind
 | true=>
  rw [y] at h;simp only [aR] at h;obtain ⟨A,hu,d⟩:=oV hT hi (aj y);split at h
  ·exact h.elim
  rename_i off ft r;rw [fj,d,aQ] at r;obtain ⟨fd,p,b⟩:=aA.1 r;simp only [er] at b;obtain ⟨rfl,rfl⟩:=b;have hfd':A[f]?=some fd:=by simpa using p
  split at h
  ·exact h.elim
  rename_i j hj;split at h
  ·rename_i cs hl
   cases q:Nat.ble (fd.offset+j.size) cs.length with
   | false=>grind
   | true=>
    rw [q] at h;simp only [aR] at h;split at h
    ·rename_i v hv;rw [hl] at hx;obtain ⟨vs,n,B,E,D⟩:=hx;obtain ⟨u,l,m⟩:=HR hT (w:=w) hj B E D (ah q) hv;refine ⟨u,v,?_,m,h⟩;simp only [execOp,z,n,Instr.field,aD,aY hu,aw,hfd',asAgg,aL,l]
    ·exact h.elim
  ·exact h.elim
end
open Go
section
variable {Γ:ce} {T:eS} (hT:T.OK Γ.P) {C:FuncId->List AV->AV->Prop} {bx:List (Nat×List AV)} {e:Operand->AV} {K:AV->Prop} {o:Oper} {a:Act} {w:World} {c:dE} {ty:TypeId}
theorem mA {size sz} {xs} {K} (h:szOK size sz xs K):K/\(size=sz\/xs=[]):=by
 unfold szOK at h
 cases b:Nat.beq size sz with
 | true=>grind [Nat.eq_of_beq_eq_true]
 | false=>
  grind
theorem RD.elem {m} {o} {sz} {xs} {v} (h:RD m (.sl o sz xs) v):∃ base len cap,v = .slice base len cap/\xs.length=len /\
  ∀ i cs,xs[i]?=some cs->∃ b off,base=some ⟨b,off,none⟩/\RD m (.ref cs) (.pointer (some ⟨b,off+i*sz,none⟩)):=by
 cases h with
 | sl _ _ _ base len cap p hf hl q n d b off l g hm f=>
  refine ⟨base,len,cap,rfl,hl,fun i cs hi=>⟨b,off,l (by grind),?_⟩⟩;exact .ref cs _ _ (fun x hx=>d cs (aC hi) x hx) (fun j=>g i j) (fun j x hj=>hm i cs j x hi hj) (fun j x hj=>f i cs j x hi hj)
theorem qX {α:Type} {sz:Nat}:∀ {xs:List (List α)} {k:Nat} {c:α},(∀ x∈xs,x.length=sz)->xs.flatten[k]?=some c->∃ x,xs[k / sz]?=some x/\x[k % sz]?=some c
 | [],k,c,_,h=>by simp at h
 | x::r,k,c,hl,h=>by
  have hx:=hl x a7;rw [List.flatten_cons] at h;by_cases b:k<sz
  ·rw [dp ar] at h;exact ⟨x,by rw [Nat.div_eq_of_lt b]; rfl,by rw [lM b]; exact h⟩
  ·rw [cF ar,hx] at h;obtain ⟨y,h1,h2⟩:=qX (fun z hz=>hl z (a6 _ hz)) h
   have d:0<sz:=by
    refine Nat.pos_of_ne_zero fun e=>?_;subst e;have:=(am.1 h2).1;rw [hl y (a6 _ (aC h1))] at this;omega
   grind [Nat.div_eq_sub_div,List.getElem?_cons_succ,Nat.mod_eq_sub_mod]
include hT in
theorem VH {t} {x} (h:gG T C bx e ty (.sliceToArrayPointer t x) K) (A:o.op = .sliceToArrayPointer t x) (hx:RC c (e x) (a.eval x)):fY Γ c a w o K:=by
 unfold gG at h;simp only at h;split at h
 ·exact h.elim
 rename_i i hi;split at h
 ·rename_i F sz xs l;rw [l] at hx
  cases n:Nat.beq i.kind 2 with
  | false=>grind
  | true=>
   rw [n] at h;simp only [aR] at h;obtain ⟨⟨E,h1⟩,h⟩:=h;have hu:=k9 hT hi (aj n);have hx':RD c.m (.sl .no sz xs) (a.eval x):=fp.sl_no ((ec (by intro cs q; cases q)).1 hx);generalize hv:a.eval x=v at hx'
   cases hx' with
   | sl _ _ _ base len cap D hf hl q j f b off u g hm B=>
    have d:=u ar;subst d;refine ⟨.pointer (some ⟨b,off,none⟩),.ref xs.flatten,?_,.ref _ _ _ (fun y hy=>?_) (fun k=>g (k / sz) (k % sz)) (fun k y hy=>?_) (fun k y hy=>?_),h⟩
    ·simp only [execOp,A,hv,Instr.arrayAt,aD,aY hu,aw];rw [aV ar];rfl
    ·obtain ⟨z,hz,hy⟩:=List.mem_flatten.1 hy;exact f z hz y hy
    ·obtain ⟨z,p,r⟩:=qX j hy;grind [Nat.add_assoc,Nat.mul_comm,Nat.div_add_mod]
    ·obtain ⟨z,p,r⟩:=qX j hy;exact B _ z _ y p r
 ·exact h.elim
include hT in
theorem Hq {t} {x y} (h:gG T C bx e ty (.indexAddr t x y) K) (z:o.op = .indexAddr t x y) (hx:RC c (e x) (a.eval x)) (hy:RC c (e y) (a.eval y)):fY Γ c a w o K:=by
 unfold gG at h;simp only at h;split at h
 ·exact h.elim
 rename_i i hi;split at h
 ·exact h.elim
 rename_i j hj;split at h
 ·rename_i k n B;rw [B] at hy;split at h
  ·rename_i E sz xs u;rw [u] at hx
   cases l:Nat.beq i.kind 3 with
   | false=>grind
   | true=>
    rw [l] at h;simp only [aR] at h;have hu:=d6 hT hi (aj l);obtain ⟨⟨p,cs,q,h⟩,f⟩:=mA h;have hx':RD c.m (.sl .no sz xs) (a.eval x):=fp.sl_no ((ec (by intro cs D; cases D)).1 hx);obtain ⟨base,len,cap,hv,hlen,v⟩:=hx'.elem;obtain ⟨b,off,rfl,A⟩:=v n.toNat cs q;have r:n.toNat<xs.length:=(am.1 q).1
    have hsz':j.size=sz:=by
     rcases f with f | f
     ·exact f
     ·subst f; simp at r
    refine ⟨.pointer (some ⟨b,off+n.toNat*sz,none⟩),.ref cs,?_,A,h⟩;simp only [execOp,z,hv,hy.int,Instr.indexAt,asIntOf,aD,aL,aw,aY hu];rw [aX ⟨p,by omega⟩];grind [Sem.run_bind,eQ,Result.andThen_ok,Sem.run_pure,fm]
  ·rename_i d off hl;rw [hl] at hx
   cases l:Nat.beq i.kind 2 with
   | false=>grind
   | true=>
    rw [l] at h;simp only [aR] at h;have hu:=k9 hT hi (aj l);obtain ⟨p,h1,h⟩:=h;refine ⟨.pointer (some ⟨c.ρ d,off+n.toNat*j.size,none⟩),.loc d (off+n.toNat*j.size),?_,rfl,h⟩;simp only [execOp,z,hx.loc,hy.int,Instr.indexAt,asIntOf,aD,aL,aw,aY hu,Instr.sureAddr];rw [aX ⟨p,h1⟩];simp only [aD,eQ hT hj,aw,aL,fm]
  ·rename_i cs hl;rw [hl] at hx
   cases l:Nat.beq i.kind 2 with
   | false=>grind
   | true=>
    rw [l] at h;simp only [aR] at h;have hu:=k9 hT hi (aj l);obtain ⟨p,h1,h⟩:=h;have hx':RD c.m (.ref cs) (a.eval x):=hx;obtain ⟨b,off,hv⟩:=hx'.ref_inv;rw [hv] at hx';refine ⟨.pointer (some ⟨b,off+n.toNat*j.size,none⟩),.ref (cs.drop (n.toNat*j.size)),?_,hx'.ref_drop _,h⟩;simp only [execOp,z,hv,hy.int,Instr.indexAt,asIntOf,aD,aL,aw,aY hu,Instr.sureAddr];rw [aX ⟨p,h1⟩];simp only [aD,eQ hT hj,aw,aL,fm]
  ·exact h.elim
 ·exact h.elim
include hT in
theorem VJ {t} {x y} (h:gG T C bx e ty (.index t x y) K) (m:o.op = .index t x y) (hx:RC c (e x) (a.eval x)) (hy:RC c (e y) (a.eval y)):fY Γ c a w o K:=by
 unfold gG at h;simp only at h;split at h
 ·exact h.elim
 rename_i i hi;split at h
 ·exact h.elim
 rename_i j hj;split at h
 ·rename_i k n cs r b;rw [r] at hy;rw [b] at hx
  cases l:Nat.beq i.kind 2 with
  | false=>grind
  | true=>
   rw [l] at h;simp only [aR] at h;have hu:=k9 hT hi (aj l);obtain ⟨q,h1,h2,h⟩:=h;split at h
   ·rename_i v hv;obtain ⟨vs,f,z,B,A⟩:=hx;obtain ⟨u,p,d⟩:=HR hT (w:=w) hj z B A h2 hv;refine ⟨u,v,?_,d,h⟩;simp only [execOp,m,f,hy.int,Instr.index,asIntOf,aD,aL,aw,aY hu];rw [aX ⟨q,h1⟩];grind [Sem.run_bind,eQ,Result.andThen_ok]
   ·exact h.elim
 ·exact h.elim
theorem Pg {x} {n} (h:gG T C bx e ty (.extract x n) K) (l:o.op = .extract x n) (hx:RC c (e x) (a.eval x)):fY Γ c a w o K:=by
 unfold gG at h;simp only at h;split at h
 ·rename_i vs d;rw [d] at hx;split at h
  ·rename_i v hv;have hx':RD c.m (.tup vs) (a.eval x):=hx;rw [fj] at hv;generalize f:a.eval x=p at hx'
   cases hx' with
   | tup _ us hl i=>
    have b:n<us.size:=by have:=(am.1 hv).1; omega
    have j:=aE b;refine ⟨us[n],v,?_,RC.of_RD (i n v _ hv j),h⟩;grind [execOp,Instr.extract,Sem.run_bind,Sem.run_pure,Result.andThen_ok]
  ·exact h.elim
 ·exact h.elim
include hT in
theorem Ph {s d} {x} (h:gG T C bx e ty (.convert s d x) K) (l:o.op = .convert s d x) (hx:RC c (e x) (a.eval x)):fY Γ c a w o K:=by
 unfold gG at h;simp only at h;split at h
 ·rename_i i j hi hj;split at h
  ·rename_i k n p;rw [p] at hx
   cases f:Nat.beq j.kind 4 with
   | false=>grind
   | true=>
    rw [f] at h;simp only [aR] at h;have hu:=NO hT hj (aj f);obtain ⟨q,m,_,b,_⟩:=ei hT hi;refine ⟨.int j.ik (j.ik.wrap n),_,?_,ey _ _,h⟩;simp only [execOp,l,hx.int,convert,aD,aY b,aY hu,aw];cases m <;> simp [Conv.intToInt]
  ·exact h.elim
 ·exact h.elim
theorem xw {big:Bool} {k:IntKind}:∀ (cs:List AV) (us:List Value) (x z:Int),mn big k x cs=some z->cs.length=us.length->(∀ (i:Nat) (y:AV) (u:Value),cs[i]?=some y->us[i]?=some u->RC c y u) ->
  (us.foldlM (if big then Builtin.max2 else Builtin.min2) (.int k x)).run Γ.P w = .ok (.int k z) w
 | [],us,x,z,h,hl,_=>by
  simp only [mn,aB] at h
  cases us with
  | nil=>simp [h]
  | cons _ _=>cases hl
 | y::r,us,x,z,h,hl,b=>by
  cases us with
  | nil=>cases hl
  | cons u us=>
   cases y with
   | int k' n=>
    simp only [mn] at h;have hu:=(b 0 _ u rfl rfl).int;subst hu;have d:=xw r us _ z h (by simpa using hl) (fun i y u h1 h2=>b (i+1) y u h1 h2)
    cases big with
    | true=>
     simp only [c5,aR,List.foldlM_cons,aD,Builtin.max2,aL,aw] at d ⊢;grind
    | false=>
     simp only [bv,cu,br,List.foldlM_cons,aD,Builtin.min2,aL,aw] at d ⊢;grind
   | _=>cases h
end
open Go
section
variable {Γ:ce} {T:eS} (hT:T.OK Γ.P) {C:FuncId->List AV->AV->Prop} {bx:List (Nat×List AV)} {e:Operand->AV} {K:AV->Prop} {o:Oper} {a:Act} {w:World} {c:dE} {ty:TypeId}
theorem d3 {b} {args} {ts} {t}:(resolve a.eval { callee := .builtin b,args:=args,argTypes:=ts } t).run Γ.P w =
  .ok { target := .builtin b ts t (args.map fun | .const _=>true | _=>false),args:=args.map a.eval } w:=rfl
include hT in
theorem Zt {args} {f} (h:gG T C bx e ty (.call { callee := .builtin .len,args:=args,argTypes:=f }) K) (r:o.op = .call { callee := .builtin .len,args:=args,argTypes:=f })
  (q:∀ x∈args.toList,RC c (e x) (a.eval x)):fY Γ c a w o K:=by
 unfold gG at h;simp only at h;split at h
 ·rename_i x t hx n;obtain ⟨args⟩:=args;obtain ⟨f⟩:=f;simp only at hx n;subst hx;subst n;have hx:=q x cU
  have b:∀ v u,(Builtin.len_ #[t] o.type #[a.eval x]).run Γ.P w = .ok v w->u=v->(execOp a.eval o).run Γ.P w = .ok (.value u) w:=by
   intro v u hv j;subst j;simp only [execOp,r,aD,d3,aw,invoke,builtin];simp only [ez,cp,eU,hv,aw,aL]
  split at h
  ·exact h.elim
  rename_i i hi
  have p:∀ d:Nat.beq i.kind 2=true,K (.int .i64 i.arr)->fY Γ c a w o K:=by
   intro d h;have hu:=k9 hT hi (aj d);refine ⟨.int .i64 i.arr,_,b _ _ ?_ rfl,ey _ _,h⟩;simp [Builtin.len_,aY hu,goInt]
  split at h
  ·rename_i z sz xs l;rw [l] at hx
   cases d:Nat.beq i.kind 3 with
   | false=>grind
   | true=>
    rw [d] at h;have hu:=d6 hT hi (aj d);have hx':RD c.m (.sl .no sz xs) (a.eval x):=fp.sl_no ((ec (by intro cs y; cases y)).1 hx);obtain ⟨base,len,cap,hv,hlen,_⟩:=hx'.elem;refine ⟨.int .i64 len,.int .i64 xs.length,b _ _ ?_ rfl,by rw [hlen]; exact ey _ _,h⟩;rw [hv];simp [Builtin.len_,aY hu,goInt]
  grind
 ·exact h.elim
theorem Hp {big:Bool} {args} {ts} (h:gG T C bx e ty (.call { callee := .builtin (if big then .max else .min),args:=args,argTypes:=ts }) K) (l:o.op = .call { callee := .builtin (if big then .max else .min),args:=args,argTypes:=ts })
  (j:∀ x∈args.toList,RC c (e x) (a.eval x)):fY Γ c a w o K:=by
 obtain ⟨args⟩:=args;simp only at j
 have key:∀ (k:IntKind) (x:Int) (r:List AV),args.map e = .int k x::r->∀ z,mn big k x r=some z->K (.int k z)->fY Γ c a w o K:=by
  intro k x r hl z hz n;clear h
  cases args with
  | nil=>cases hl
  | cons y m=>
   simp only [cp,gy] at hl;obtain ⟨f,d⟩:=hl;have hy:=j y (a7 ..);rw [f] at hy
   have b:=xw (Γ:=Γ) (w:=w) (c:=c) r (m.map a.eval) x z hz (by rw [<- d]; simp) (fun i q u h1 h2=>by
    grind)
   refine ⟨.int k z,_,?_,ey _ _,n⟩;simp only [execOp,l,aD,d3,aw,invoke]
   cases big with
   | true=>
    simp only [c5] at b ⊢;simp only [builtin,Builtin.max_,ez,cp,hy.int,aD,b,aw,aL]
   | false=>
    simp only [bv,cu] at b ⊢;simp only [builtin,Builtin.min_,ez,cp,hy.int,aD,b,aw,aL]
 unfold gG at h;grind
theorem RD.part {m} {o} {sz} {xs} {base} {len cap} (h:RD m (.sl o sz xs) (.slice base len cap)) {l k mx} (hl:l<=k) (B:k<=xs.length) (hm:k<=mx) (q:mx<=cap)
  {o'} (f:∀ j,o'≠.id j) (n:o' = .full->mx=k) :
  RD m (.sl o' sz ((xs.take k).drop l)) (.slice (if mx=l then base else base.map (·.add (l*sz))) (k - l) (mx - l)):=by
 cases h with
 | sl _ _ _ _ _ _ v hf hlen D u p b off t g A r=>
  have d:∀ i x,((xs.take k).drop l)[i]?=some x->xs[l+i]?=some x:=by
   intro i x hx;rw [da,dL] at hx;split at hx
   ·exact hx
   ·cases hx
  refine .sl _ _ _ _ _ _ f (fun h=>by rw [n h]) (by simp; omega) ar (fun x hx=>?_) (fun x hx=>?_) b (off+l*sz) (fun z=>?_) (fun i j=>g (l+i) j) (fun i x j y h1 h2=>?_) (fun i x j y h1 h2=>r (l+i) x j y (d i x h1) h2)
  ·grind
  ·grind
  ·rw [aV ar,t ar];simp only [bH,fm]
  grind
theorem wJ {v} {n} {k} (hv:v = .int k n) {y} {code} (b:0<=n) (h1:n.toNat<=y):(Instr.sliceBound v y code).run Γ.P w = .ok n.toNat w:=by
 subst hv;simp only [Instr.sliceBound,asIntOf,aD,aL,aw];rw [aX ⟨b,by omega⟩];rfl
theorem xC {len cap l k} {lo hi} (b:match hi with | none=>k=len | some v=>∀ code,(Instr.sliceBound v cap code).run Γ.P w = .ok k w)
  (hl:match lo with | none=>l=0 | some v=>∀ code,(Instr.sliceBound v k code).run Γ.P w = .ok l w):(Instr.sliceBounds true len cap lo hi none).run Γ.P w = .ok (l,k,cap) w:=by
 cases hi with
 | none=>
  subst b;cases lo <;> simp only at hl <;> simp [Instr.sliceBounds,hl]
 | some v=>cases lo <;> simp only at b hl <;> simp [Instr.sliceBounds,b,hl]
theorem IW {len cap l k m} {lo} {u v} (hm:∀ code,(Instr.sliceBound v cap code).run Γ.P w = .ok m w) (b:∀ code,(Instr.sliceBound u m code).run Γ.P w = .ok k w)
  (hl:match lo with | none=>l=0 | some v=>∀ code,(Instr.sliceBound v k code).run Γ.P w = .ok l w):(Instr.sliceBounds true len cap lo (some u) (some v)).run Γ.P w = .ok (l,k,m) w:=by
 cases lo <;> simp only at hl <;> simp [Instr.sliceBounds,hm,b,hl]
include hT in
theorem VI {t} {x} {lo hi mx} (h:gG T C bx e ty (.slice t x lo hi mx) K) (ho:o.op = .slice t x lo hi mx) (hx:RC c (e x) (a.eval x)) (M:∀ y,lo=some y->RC c (e y) (a.eval y))
  (H:∀ y,hi=some y->RC c (e y) (a.eval y)) (G:∀ y,mx=some y->RC c (e y) (a.eval y)):fY Γ c a w o K:=by
 unfold gG at h;simp only at h;split at h
 ·exact h.elim
 rename_i i F;split at h
 ·exact h.elim
 rename_i j hj;split at h
 ·rename_i ow sz xs E;rw [E] at hx
  cases Q:Nat.beq i.kind 3 with
  | false=>grind
  | true=>
   rw [Q] at h;simp only [aR] at h;have hu:=d6 hT F (aj Q);obtain ⟨h,b⟩:=mA h;have hx':RD c.m (.sl .no sz xs) (a.eval x):=fp.sl_no ((ec (by intro cs hc; cases hc)).1 hx);have hx'':=hx';obtain ⟨base,len,cap,hv,hlen,_⟩:=hx'.elem;rw [hv] at hx'';have X:len<=cap:=by cases hx'' with | sl=>assumption
   -- the bounds
   have u:∀ (f:Option Operand) (d:Nat) (K':Nat->Prop),(∀ y,f=some y->RC c (e y) (a.eval y))->jU (f.map e) d K' ->
     ∃ n,K' n/\(∀ (y:Nat) (code:BoundsCode),n<=y->∀ v,f.map a.eval=some v->(Instr.sliceBound v y code).run Γ.P w = .ok n w)/\(f.map a.eval=none->n=d)/\(f=none↔f.map a.eval=none):=by
    intro f d K' hr r
    cases f with
    | none=>exact ⟨d,r,by simp,fun _=>rfl,by simp⟩
    | some y=>
     simp only [bH,jU] at r;split at r
     ·grind
     ·rename_i k n hy;simp only [aB] at hy;have:=hr y rfl;rw [hy] at this;refine ⟨n.toNat,r.2,fun z code hz v hv=>?_,by simp,by simp⟩;simp only [bH,aB] at hv;exact wJ (hv ▸ this.int) r.1 hz
     ·exact r.elim
   obtain ⟨l,h,hl1,hl2,_⟩:=u lo 0 _ M h;obtain ⟨k,h,D,Z,hk3⟩:=u hi xs.length _ H h
   have fin:∀ m:Nat,l<=k->k<=xs.length->k<=m->m<=cap->(Instr.sliceBounds true len cap (lo.map a.eval) (hi.map a.eval) (mx.map a.eval)).run Γ.P w = .ok (l,k,m) w ->
     ∀ o',(∀ j,o'≠Own.id j)->(o' = .full->m=k)->K (.sl o' sz ((xs.take k).drop l))->fY Γ c a w o K:=by
    intro m g1 g2 g3 g4 B o' J N A;have hp:=hx''.part g1 g2 g3 g4 J N;refine ⟨_,_,?_,RC.of_RD hp,A⟩
    have p:(if m=l then base else base.map (·.add (l*j.size)))=(if m=l then base else base.map (·.add (l*sz))):=by
     rcases b with b | b
     ·rw [b]
     ·subst b;simp at g2;obtain rfl:k=0:=g2;obtain rfl:l=0:=by omega
      simp
    simp only [execOp,ho,hv,Instr.sliceAt,aD,aY hu,aw,Instr.slice,B,eQ hT hj,aL,p]
   split at h
   ·rename_i hm;obtain ⟨g1,g2,A⟩:=h;have L:mx=none:=by cases mx <;> simp at hm ⊢
    subst L;refine fin cap g1 g2 ar (ba _) ?_ .no (by intro j hj; cases hj) (by intro hh; cases hh) A;refine xC ?_ ?_
    ·grind
    grind
   ·rename_i km m hm
    cases hi with
    | none=>exact h.elim
    | some z=>
    simp only [Option.isSome_some,aR] at h;obtain ⟨g1,g2,g3,A⟩:=h
    cases mx with
    | none=>cases hm
    | some q=>
     simp only [bH,aB] at hm;have U:=G q rfl;rw [hm] at U;have hmk:m.toNat=k:=by omega
     refine fin k g1 g2 (ba _) ar ?_ .full (by intro j hj; cases hj) (fun _=>rfl) A;refine IW (fun code=>?_) (fun code=>D _ code (ba k) _ rfl) ?_
     ·have:=wJ (Γ:=Γ) (w:=w) (code:=code) U.int ar (show m.toNat<=cap by omega);grind
     grind
   ·exact h.elim
 ·exact h.elim
end
open Go
section
variable {Γ:ce} {T:eS} (hT:T.OK Γ.P) {C:FuncId->List AV->AV->Prop} {bx:List (Nat×List AV)} {e:Operand->AV} {K:AV->Prop} {o:Oper} {a:Act} {w:World} {c:dE} {ty:TypeId}
theorem RD.cst (m) (v):RD m (cst v) v:=by
 unfold AI.cst;split
 ·exact .int _ _
 ·exact .bool _
 ·exact .str _
 ·exact .lit _ rfl rfl
 ·exact .lit _ rfl rfl
 ·exact .lit _ rfl rfl
 ·exact .lit _ rfl rfl
 ·exact .sl .full 0 [] none 0 0 (by intro k b; cases b) (fun _=>rfl) rfl (ba _) cU cU 0 0 ar (fun _ _=>Go.undef) cU cU
 ·exact .junk _
def mc (c:dE) (cs:List AV) (vs:Array Value):Prop:=cs.length=vs.size/\∀ (i:Nat) (x:AV) (u:Value),cs[i]?=some x->vs[i]?=some u->fp c x u
theorem eh {α:Type}:∀ (l:List α) (n:Nat) (v:α) (i:Nat),(dD l n v)[i]?=if n=i/\i<l.length then some v else l[i]?
 | [],n,v,i=>by simp [dD]
 | x::r,0,v,i=>by cases i <;> simp [dD]
 | x::r,n+1,v,i=>by
  cases i with
  | zero=>simp [dD]
  | succ i=>simp only [dD,fg,eh r n v i,bt]; congr 1; simp
theorem t6 {α:Type}:∀ (l:List α) (n:Nat) (v:α),(dD l n v).length=l.length
 | [],n,v=>by simp [dD]
 | x::r,0,v=>by simp [dD]
 | x::r,n+1,v=>by simp [dD,t6 r n v]
theorem mc.set {cs} {vs} (h:mc c cs vs) {x} {u} (hx:fp c x u) (n):mc c (dD cs n x) (vs.setIfInBounds n u):=by
 refine ⟨by simp [t6,h.1],fun i y q h1 h2=>?_⟩;rw [eh] at h1;rw [dn] at h2;by_cases b:n=i
 ·grind
 ·rw [aV (fun d=>b d.1)] at h1;rw [aV b] at h2;exact h.2 i y q h1 h2
theorem mc.setMany:∀ {ds:List AV} {us:List Value} {cs:List AV} {vs:Array Value} (_:mc c cs vs) (_:ds.length=us.length) (_:∀ (i:Nat) (x:AV) (u:Value),ds[i]?=some x->us[i]?=some u->fp c x u) (off:Nat),
  mc c (setMany cs off ds) ((us.zipIdx.foldl (fun cs (c,j)=>cs.setIfInBounds (off+j) c) vs))
 | [],us,cs,vs,h,hl,_,off=>by
  cases us with
  | nil=>exact h
  | cons _ _=>cases hl
 | d::ds,us,cs,vs,h,hl,b,off=>by
  cases us with
  | nil=>cases hl
  | cons u us=>
   have h1:=h.set (b 0 d u rfl rfl) off;have f:=mc.setMany (ds:=ds) (us:=us) h1 (by simpa using hl) (fun i x u g1 g2=>b (i+1) x u g1 g2) (off+1);simp only [AI.setMany,List.zipIdx_cons,rE,ee,bI];rw [List.zipIdx_eq_map_add];rw [List.foldl_map];grind
theorem RC.cells0 {x} {v} {cs} (h:RC c x v) (b:x.cells?=some cs):mc c cs v.cells:=by
 cases x with
 | agg ds=>
  simp only [AV.cells?,aB] at b;subst b;obtain ⟨vs,rfl,h2,i,f⟩:=h;exact ⟨h2,f⟩
 | junk=>cases b
 | undef=>cases b
 | tup vs=>cases b
 | loc d off=>cases b
 | me g k n xs=>cases b
 | int _ _ | bool _ | str _ | lit _ | fn _ | clo _ _ | sl _ _ _ | ref _ | mapv _ | pin _ _ _ _=>
  exact RC.cells h b (by grind [AV.cells?,Option.some.injEq,AV.isCell])
theorem tg {place place':Nat->Option (Nat×Nat)} (v:∀ n q,place n=some q->place' n=some q):∀ {ps:List (Nat×AV)} {us:List (Nat×Value)} {cs:List AV} {vs:Array Value} (_:mc c cs vs) (_:ps.length=us.length)
  (_:∀ (i:Nat) (p:Nat×AV) (u:Nat×Value),ps[i]?=some p->us[i]?=some u->p.1=u.1/\RC c p.2 u.2) {r:List AV},fill place cs ps=some r->∃ f,Instr.fill place' vs us=some f/\mc c r f
 | [],us,cs,vs,h,hl,_,r,b=>by
  simp only [fill,aB] at b;subst b
  cases us with
  | nil=>exact ⟨vs,rfl,h⟩
  | cons _ _=>cases hl
 |(n,x)::ps,us,cs,vs,h,hl,y,r,b=>by
  cases us with
  | nil=>cases hl
  | cons u us=>
   obtain ⟨z,u⟩:=u;have t:=y 0 (n,x) (z,u) rfl rfl;simp only at t;obtain ⟨rfl,hx⟩:=t;simp only [fill] at b;split at b
   ·cases b
   rename_i off size j;split at b
   ·cases b
   rename_i ds l
   cases d:Nat.beq ds.length size&&Nat.ble (off+size) cs.length with
   | false=>rw [d] at b; cases b
   | true=>
    rw [d] at b;simp only [aR] at b;simp only [al] at d;have D:=aj d.1;have B:=ah d.2;have m:=hx.cells0 l;have h1:=h.setMany (ds:=ds) (us:=u.cells.toList) (by simpa using m.1) (fun i x q g1 g2=>m.2 i x q g1 (by simpa using g2)) off;obtain ⟨f,g1,g2⟩:=tg v (us:=us) h1 (by simpa using hl) (fun i p u A E=>y (i+1) p u A E) b;refine ⟨f,?_,g2⟩;simp only [Instr.fill,v _ _ j];rw [aV (by simp only [AN,cq,aP,not_or]; have:=h.1; have:=m.1; constructor <;> omega)];rw [<- g1]
    congr 1
    grind [Array.toList_zipIdx]
theorem ss {α β:Type} {P:Program} (f:α->Sem β) (g:α->β) (w:World):∀ (xs:List α),(∀ x∈xs,(f x).run P w = .ok (g x) w)->(xs.mapM f).run P w = .ok (xs.map g) w
 | [],_=>by simp
 | x::xs,h=>by
  have d:=h x (a7 ..);have b:=ss f g w xs (fun y hy=>h y (a6 _ hy));simp only [Hg,aD,d,aw,b,aL,cp]
include hT in
theorem yU {t} {i} (g:get T t=some i) {cs} (hz:i.zero.cells?=some cs):∃ z,(zeroValue t).run Γ.P w = .ok z w/\mc c cs z.cells/\(i.zero = .agg cs->∃ vs,z = .agg vs):=by
 obtain ⟨j,d,h1,h2,b⟩:=ei hT g;simp only [TI.of,h1,h2,aB] at b;have hzero:=(ax TI.zero b).symm;simp only at hzero;clear b
 cases hj:j.zero with
 | none=>rw [hj] at hzero; simp only at hzero; rw [hzero] at hz; cases hz
 | some z=>
  rw [hj] at hzero;simp only at hzero;refine ⟨z,by simp only [zeroValue,typeInfo,aD,x7,aw,h1,aL,hj],?_,?_⟩
  ·rw [hzero] at hz
   cases z with
   | agg vs=>
    simp only [Qr,AV.cells?,aB] at hz;subst hz;refine ⟨by simp [Value.cells],fun n x u g1 g2=>?_⟩;rw [aQ] at g1;obtain ⟨v,hv,rfl⟩:=aA.1 g1;have:vs[n]?=some v:=by simpa using hv
    grind [Value.cells,fp.of_RD,RD.cst]
   | _=>exact RC.cells0 (RC.of_RD (RD.cst _ _)) hz
  ·intro f;rw [f] at hzero;cases z <;> first | exact ⟨_,rfl⟩ | grind [Qr,cst] | grind [Qr,cst]
theorem mc.agg {cs} {vs} (h:mc c cs vs) (b:∀ x∈cs,x.isCell=true):RC c (.agg cs) (.agg vs):=⟨vs,rfl,h.1,b,h.2⟩
theorem B0 {parts:Array (Nat×Operand)} (b:∀ p∈parts.toList,RC c (e p.2) (a.eval p.2)):∀ (i:Nat) (p:Nat×AV) (u:Nat×Value),(parts.toList.map fun (j,x)=>(j,e x))[i]?=some p->(parts.toList.map fun (j,x)=>(j,a.eval x))[i]?=some u->p.1=u.1/\RC c p.2 u.2:=by
 grind
include hT in
theorem VL {t} {parts} (h:gG T C bx e ty (.build t parts) K) (L:o.op = .build t parts) (M:∀ p∈parts.toList,RC c (e p.2) (a.eval p.2)):fY Γ c a w o K:=by
 unfold gG at h;simp only at h;split at h
 ·exact h.elim
 rename_i i hi;split at h
 ·rename_i N v;obtain ⟨z,y,d,E⟩:=yU hT (w:=w) (c:=c) hi (cs:=N) (by rw [v]; rfl);obtain ⟨Q,rfl⟩:=E v;simp only [Value.cells] at d
  cases A:Nat.beq i.kind 1&&i.flds.all (Td T) with
  | true=>
   rw [A] at h;simp only [aR] at h;simp only [al,aN] at A;obtain ⟨G,F⟩:=A;obtain ⟨B,hu,J⟩:=oV hT hi (aj G);rw [uA] at h;split at h
   ·rename_i cs m
    cases r:cs.all (fun c=>c.isCell) with
    | false=>grind
    | true=>
     rw [r] at h;simp only [aR] at h
     -- the places
     let sz:Field->Nat×Nat:=fun f=>(f.offset,match get T f.type with | some j=>j.size | none=>0)
     have b:(B.mapM fun (f:Field)=>do pure (f.offset,<- sizeOf f.type)).run Γ.P w = .ok (B.map sz) w:=by
      rw [vE,Sem.run_map,ss _ sz w B.toList]
      ·simp only [aw]
       congr 1
       grind
      ·intro f hf;have:=F (f.offset,f.type) (by grind);grind [Td,Sem.run_bind,eQ,Result.andThen_ok,Sem.run_pure]
     have l:=tg (c:=c) (place':=((B.map sz)[·]?)) (fun n q H=>by
      rw [fj,J,aQ] at H;grind) (ps:=parts.toList.map fun (j,x)=>(j,e x)) (us:=parts.toList.map fun (j,x)=>(j,a.eval x)) d cU (B0 M) m
     obtain ⟨D,g1,g2⟩:=l;refine ⟨.agg D,.agg cs,?_,g2.agg (by simpa using r),h⟩;simp only [execOp,L,Instr.build,aD,y,aw,aY hu,Value.cells,b,yq,g1,aL]
   ·exact h.elim
  | false=>
   rw [A] at h;simp only [br] at h
   cases u:Nat.beq i.kind 2 with
   | false=>grind
   | true=>
    rw [u] at h;simp only [aR] at h;have hu:=k9 hT hi (aj u);split at h
    ·exact h.elim
    rename_i j hj;rw [uA] at h;split at h
    ·rename_i cs m
     cases r:cs.all (fun c=>c.isCell) with
     | false=>grind
     | true=>
      rw [r] at h;simp only [aR] at h;obtain ⟨D,g1,g2⟩:=tg (c:=c) (place':=fun n=>some (n*j.size,j.size)) (fun n q H=>H) (ps:=parts.toList.map fun (j,x)=>(j,e x)) (us:=parts.toList.map fun (j,x)=>(j,a.eval x)) d cU (B0 M) m;refine ⟨.agg D,.agg cs,?_,g2.agg (by simpa using r),h⟩;simp only [execOp,L,Instr.build,aD,y,aw,aY hu,Value.cells,eQ hT hj,yq,g1,aL]
    ·exact h.elim
 ·exact h.elim
end
open Go
open Go.RowKit (Below)
section
variable {Γ:ce} {c:dE} {bx:List (Nat×List AV)} {w w':World}
theorem WI.lt_box (b:WI Γ c bx w) {d} {cs} (h:get bx d=some cs) (a:cs≠[]):c.ρ d<w.heap.size:=by
 obtain ⟨_,_,_,vs,T,h1,_⟩:=b.box d cs h a;grind
theorem WI.lt_own (a:WI Γ c bx w) {k g} (h:dc c k=some g):g<w.heap.size:=by
 obtain ⟨_,_,_,_,_,h1,_⟩:=(a.own k).blk g h;grind
theorem WI.lt_m (a:WI Γ c bx w) {b o} {v} (h:c.m b o=some v):b<w.heap.size:=by
 have:=a.sub.cell b o v h;grind [World.cell?]
theorem WI.lt_map (a:WI Γ c bx w) {b} {x} (h:c.m.maps b=some x):b<w.heap.size:=(aO.1 (a.sub.map b x h)).1
theorem WI.lt_x (a:WI Γ c bx w) {k b} {o} (h:c.x k=some (b,o)):b<w.heap.size:=(aO.1 (a.xo k b o h).obj).1
theorem WI.grow (a:WI Γ c bx w) {m'} (f:Below w.heap.size w w') (r:iG w w') (hle:c.m.le m') (z:m'.sub w') (j:c.m.News (w.heap.size<=·) m' w') :
  WI Γ { c with m:=m' } bx w'/\c.le { c with m:=m' }/\NC w w':=by
 have B:Γ.w0.heap.size<=w.heap.size:=a.ext.size;have hle':c.le { c with m:=m' }:=⟨hle,rfl,rfl,rfl,rfl,rfl⟩;refine ⟨⟨a.ext.trans (.of f B),z,a.le0.trans hle,⟨fun b o v h=>?_,fun b x h=>?_⟩,fun d cs h l=>?_,a.inj,fun k=>?_,fun k b o h=>?_⟩,hle',⟨f.size,fun b o h _=>?_,r,fun _ h=>wZ h f⟩⟩
 ·rcases j.cell b o v h with h | h
  ·exact (a.new.cell b o v h).imp id fun ⟨h1,h2⟩=>⟨h1,wZ h2 f⟩
  grind [iJ,Nat.le_trans]
 ·rcases j.map b x h with h | h
  ·exact a.new.map b x h
  grind [iJ,Nat.le_trans]
 ·have e:=a.lt_box h l;obtain ⟨h1,h2,q,vs,T,u,p,A⟩:=a.box d cs h l;refine ⟨h1,fun o=>?_,q,vs,T,(f.block _ e).trans u,p,fun i x v g1 g2=>(A i x v g1 g2).mono hle'⟩
  cases hm:m' (c.ρ d) o with
  | none=>rfl
  | some v=>
   rcases j.cell _ _ _ hm with h | h
   ·rw [h2 o] at h; cases h
   ·omega
 ·have n:=a.own k;refine ⟨fun g t=>?_,n.shape,n.box,n.apart⟩;have e:=a.lt_own t;obtain ⟨len,cap,T,cells,h1,h2,q,u,p⟩:=n.blk g t;refine ⟨len,cap,T,cells,h1,(f.block _ e).trans h2,q,fun o y=>?_,p⟩
  cases hm:m' g o with
  | none=>rfl
  | some v=>
   rcases j.cell _ _ _ hm with h | h
   ·grind
   ·omega
 ·have e:=a.lt_x h;have hx:=a.xo k b o h;refine ⟨hx.new,(f.block _ e).trans hx.obj,hx.kept,fun i hi=>?_,?_,hx.box,hx.own,hx.inj⟩
  ·cases hm:m' b i with
   | none=>rfl
   | some v=>
    rcases j.cell _ _ _ hm with h | h
    ·rw [hx.mem i hi] at h; cases h
    ·omega
  ·cases hm:m'.maps b with
   | none=>rfl
   | some v=>
    rcases j.map _ _ hm with h | h
    ·rw [hx.map] at h; cases h
    ·omega
 ·rw [f.block b (aO.1 h).1]; exact h
theorem WI.allocData (a:WI Γ c bx w) (vs) (E) :
  WI Γ { c with m:=c.m.with fun b o=>if b=w.heap.size then vs[o]? else c.m b o } bx (w.alloc (.cells vs E))/\c.le { c with m:=c.m.with fun b o=>if b=w.heap.size then vs[o]? else c.m b o }/\NC w (w.alloc (.cells vs E)):=by
 refine a.grow ((aaB _ w).alloc (ba _) _) (.alloc w (ed _ _)) ⟨fun b o v h=>?_,fun _ _ h=>h⟩ ⟨fun b o v h=>?_,fun b x h=>?_⟩ ⟨fun b o v h=>?_,fun _ _ h => .inl h⟩
 ·have:=a.lt_m h;show (if _ then _ else _)=_;grind
 ·simp only [dI.with] at h;split at h
  ·grind [World.cell?_alloc_new]
  ·have:=a.lt_m h;rw [lO _ _ _ this];exact a.sub.cell b o v h
 ·exact (gD _ _ _ (a.lt_map (x:=x) h)).trans (a.sub.map b x h)
 ·simp only [dI.with] at h;split at h
  ·rename_i d; exact .inr ⟨by omega,vs,E,by rw [d]; exact fq _ _⟩
  ·exact .inl h
theorem RQ {c c'} {f} (hx:c'.x=c.x) (hf:∀ x v,RO c x v->RO c' (f x) v) (d:∀ x:AV,x.isCell=true->(f x).isCell=true) {j n} {xs} {v} (h:RX c .box j n xs v) :
  RX c' .box j n (xs.map fun r=>r.map f) v:=by
 obtain ⟨cells,T,own,r1,rfl,a,b,e⟩:=h;refine ⟨cells,T,own.map f,by rw [hx]; exact r1,rfl,by simpa using a,fun y hy=>?_,fun i y u h1 h2=>?_⟩
 ·grind
 grind
theorem Hk {x:AV} (k) (h:x.isCell=true):(x.demO k).isCell=true:=by
 cases x with
 | sl o sz xs=>cases o <;> rfl
 | _=>exact h
theorem pX {x:AV} (k) (h:x.isCell=true):(x.dem1 k).isCell=true:=by
 cases x with
 | sl o sz xs=>cases o <;> rfl
 | me g _ _ _=>cases h
 | _=>exact h
def dE.own (c:dE) (k:Nat) (v:Value) (sz:Nat):dE:={ c with τ:=fun j=>if j=k then v else c.τ j,σ:=fun j=>if j=k then sz else c.σ j }
theorem RO.own {x} {v u} {k sz} (h:RO c x v):RO (c.own k u sz) (x.demO k) v:=by
 cases x with
 | sl o s xs=>
  cases o with
  | id j=>
   simp only [AV.demO]
   cases hj:Nat.beq j k with
   | true=>exact h.2.2
   | false=>
    have a:j≠k:=fun e=>by grind [Nat.beq_refl]
    refine ⟨?_,?_,h.2.2⟩
    ·simp only [dE.own,aV a]; exact h.1
    ·simp only [dE.own,aV a]; exact h.2.1
  | no=>exact h
  | full=>exact h
 | _=>exact h
theorem fp.own {x} {v u} {k sz} (h:fp c x v):fp (c.own k u sz) (x.dem1 k) v:=by
 cases x with
 | sl o s xs=>
  cases o with
  | id j=>
   simp only [AV.dem1]
   cases hj:Nat.beq j k with
   | true=>exact h.2.2
   | false=>
    have a:j≠k:=fun e=>by grind [Nat.beq_refl]
    refine ⟨?_,?_,h.2.2⟩
    ·simp only [dE.own,aV a]; exact h.1
    ·simp only [dE.own,aV a]; exact h.2.1
  | no=>exact h
  | full=>exact h
 | me g j n xs=>
  cases g with
  | box=>exact RQ (c:=c) (c':=c.own k u sz) (f:=AV.demO k) (v:=v) rfl (fun _ _ h=>h.own) (fun _ h=>Hk k h) h
  | _=>exact h
 | _=>exact h
theorem RC.own {x} {v u} {k sz} (h:RC c x v):RC (c.own k u sz) (x.dem k) v:=by
 cases x with
 | agg cs=>
  obtain ⟨vs,rfl,h1,h2,a⟩:=h;refine ⟨vs,rfl,by simpa using h1,fun y hy=>?_,fun i y d g1 g2=>?_⟩
  ·obtain ⟨z,hz,rfl⟩:=bp.1 hy;exact pX k (h2 z hz)
  ·rw [aQ] at g1;obtain ⟨z,hz,rfl⟩:=aA.1 g1;exact (a i z d hz g2).own
 | sl o s xs=>
  have h1:=(ec (by intro cs b; cases b)).1 h;have h2:=h1.own (k:=k) (u:=u) (sz:=sz)
  cases o with
  | id j=>grind [ec,AV.dem,AV.dem1]
  | no=>exact h
  | full=>exact h
 | me g j n xs=>
  cases g with
  | box=>exact fp.own (k:=k) (u:=u) (sz:=sz) (show fp c (.me .box j n xs) v from h)
  | _=>exact h
 | _=>exact h
theorem lu {α β:Type} (f:Nat->α->β):∀ (l:List (Nat×α)) (k:Nat),get (l.map fun p=>(p.1,f p.1 p.2)) k=(get l k).map (f k)
 | [],_=>rfl
 |(d,v)::r,k=>by
  simp only [cp,get]
  cases a:Nat.beq d k with
  | true=>simp only [aR,bH]; rw [aj a]
  | false=>simp only [br]; exact lu f r k
theorem mB (s:St) (k d):get (s.dem k).t d=(get s.t d).map (AV.dem k):=by unfold St.dem; rw [o5]; exact lu (fun (_:Nat) (v:AV)=>v.dem k) s.t d
theorem rP (s:St) (k d):get (s.dem k).b d=(get s.b d).map (fun cs=>cs.map (AV.dem1 k)):=by unfold St.dem; rw [yz]; exact lu (fun (_:Nat) (cs:List AV)=>cs.map (AV.dem1 k)) s.b d
end
open Go
open Go.RowKit (Below)
theorem fD (a:Act) (d) (v) (k) (b:d<a.tmps.size):(a.put (some d) v).tmps.getD k Go.undef=if k=d then v else a.tmps.getD k Go.undef:=by
 simp only [Act.put,aG,dn];grind
theorem fC (a:Act) (d) (v):(a.put d v).tmps.size=a.tmps.size:=by cases d <;> simp [Act.put]
theorem el (a:Act) (d) (v):(a.put d v).defers=a.defers:=by cases d <;> rfl
section
variable {Γ:ce} {s:St} {a:Act} {w w':World}
theorem d5.next (f:d5 Γ s a w) (h:NC w w') {t} {b} {c} (m:WI Γ c b w') {d} {v} (u:∀ k,d=some k->k<Γ.nt)
  (q:∀ k x,get t k=some x->RC c x ((a.put d v).tmps.getD k Go.undef)):d5 Γ ⟨t,b⟩ (a.put d v) w':=by
 obtain ⟨n,h1,h2,i⟩:=f.defers;exact ⟨⟨c,m,q⟩,by rw [fC]; exact f.size,⟨n,by rw [el]; exact h1,h2,fun D j=>⟨h.same D _ (i D j).1 rfl,(i D j).2⟩⟩,fun l hl=>let ⟨r,p⟩:=f.rnd l hl; ⟨r,h.same l _ p rfl⟩⟩
theorem a8 {α} (d:Nat) (v:α) (l:List (Nat×α)) (k:Nat):get ((d,v)::l) k=if k=d then some v else get l k:=by
 simp only [get]
 cases h:Nat.beq d k with
 | true=>rw [aX (aj h).symm]; rfl
 | false=>rw [aV (fun e=>by grind [Nat.beq_refl])]; rfl
theorem eA {c} {t} (f:∀ k x,get t k=some x->RC c x (a.tmps.getD k Go.undef)) {d} (b:d<a.tmps.size) {x} {v} (hx:RC c x v) :
  ∀ k y,get ((d,x)::t) k=some y->RC c y ((a.put (some d) v).tmps.getD k Go.undef):=by
 intro k y hy;rw [fD a d v k b];rw [a8] at hy;grind
end
section
variable {Γ:ce} (hΓ:Γ.OK) {T:eS} (hT:T.OK Γ.P) {bx:List (Nat×List AV)} {e:Operand->AV} {K:AV->Prop} {o:Oper} {a:Act} {w:World} {c:dE} {ty:TypeId}
 {next:Act->World->Prop} {Q:Exit->Act->World->Prop}
def Vf (Γ:ce) (c:dE) (bx:List (Nat×List AV)) (w:World) (o:Oper) (a:Act) (K:AV->Prop) (next:Act->World->Prop):Prop:=
 ∀ x v w' c',K x->c.le c'->WI Γ c' bx w'->NC w w'->RC c' x v->next (a.put o.dst v) w'
include hΓ in
theorem fY.wp (h:fY Γ c a w o K) (d:WI Γ c bx w) (b:∀ c,o.op≠.defer c) (i:Vf Γ c bx w o a K next):o.wpIn Γ.F Γ.n Γ.P a w next Q:=by
 obtain ⟨v,x,h1,h2,f⟩:=h;exact cT hΓ b h1 (i x v w c f (.refl c) d (.refl w) h2)
theorem sL:∀ (ps:List (Nat×Operand)) (n sz:Nat) (xs:List (List AV)),kF e ps n sz=some xs->xs.length=ps.length/\(∀ x∈xs,x.length=sz)/\(∀ x∈xs,∀ y∈x,AV.isCell y=true) /\
  ∀ i p,ps[i]?=some p->p.1=n+i/\∃ cs,xs[i]?=some cs/\rh (e p.2)=some cs
 | [],n,sz,xs,h=>by grind [kF,Option.some.injEq]
 |(j,x)::ps,n,sz,xs,h=>by
  simp only [kF] at h;split at h
  ·rename_i cs l h1 h2
   cases b:Nat.beq j n&&Nat.beq cs.length sz with
   | false=>rw [b] at h; cases h
   | true=>
    rw [b] at h;simp only [aR,aB] at h;subst h;simp only [al] at b;obtain ⟨g1,g2,g3,g4⟩:=sL ps (n+1) sz l h2;refine ⟨by simp [g1],?_,?_,?_⟩
    ·intro y hy;rcases bF.1 hy with rfl | hy
     ·exact aj b.2
     ·exact g2 y hy
    ·intro y hy;rcases bF.1 hy with rfl | hy
     ·intro z hz;unfold rh at h1;split at h1
      ·rename_i ds m
       cases d:ds.all (fun c=>c.isCell) with
       | false=>grind
       | true=>
        rw [d] at h1;simp only [aR,aB] at h1;subst h1;obtain ⟨u,hu,rfl⟩:=bp.1 hz;grind [fK]
      ·cases h1
     ·exact g3 y hy
    ·intro i p f
     cases i with
     | zero=>
      simp only [bw,aB] at f;subst f;exact ⟨aj b.1,cs,rfl,h1⟩
     | succ i=>
      grind
  ·cases h
theorem sI {x} {v} {cs} (h:rh x=some cs) (hx:RC c x v):cs.length=v.cells.size/\(∀ y∈cs,y.isCell=true)/\∀ (i:Nat) (y:AV) (u:Value),cs[i]?=some y->v.cells[i]?=some u->RD c.m y u:=by
 unfold rh at h;split at h
 ·rename_i ds d
  cases b:ds.all (fun c=>c.isCell) with
  | false=>rw [b] at h; cases h
  | true=>
   rw [b] at h;simp only [aR,aB] at h;subst h;obtain ⟨h1,h2⟩:=hx.cells0 d;refine ⟨by simpa using h1,fun y hy=>?_,fun i y u g1 g2=>?_⟩
   ·obtain ⟨z,hz,rfl⟩:=bp.1 hy;grind [fK]
   ·rw [aQ] at g1;obtain ⟨z,hz,rfl⟩:=aA.1 g1;exact (h2 i z u hz g2).pub
 ·cases h
end
open Go
open Go.RowKit (Below)
theorem wB:∀ (us:List Value) (off:Nat) (arr:Array Value),(us.zipIdx.foldl (fun cs (c,j)=>cs.setIfInBounds (off+j) c) arr).size=arr.size /\
  ∀ k,(us.zipIdx.foldl (fun cs (c,j)=>cs.setIfInBounds (off+j) c) arr)[k]?=if off<=k/\k<off+us.length/\k<arr.size then us[k - off]? else arr[k]?
 | [],off,arr=>by
  refine ⟨rfl,fun k=>?_⟩;rw [aV (by simp; omega)]; rfl
 | u::us,off,arr=>by
  have b:=wB us (off+1) (arr.setIfInBounds off u);simp only [List.zipIdx_cons,rE,ee,bI];rw [List.zipIdx_eq_map_add,List.foldl_map];grind
theorem Ct (size:Nat):∀ (ps:List (Nat×Value)) (n:Nat) (arr:Array Value),(∀ i p,ps[i]?=some p->p.1=n+i/\p.2.cells.size=size)->(n+ps.length)*size<=arr.size ->
  ∃ r,Instr.fill (fun i=>some (i*size,size)) arr ps=some r/\r.size=arr.size/\(∀ k,k<n*size->r[k]?=arr[k]?)/\∀ (i:Nat) (p:Nat×Value),ps[i]?=some p->∀ j,j<size->r[(n+i)*size+j]?=p.2.cells[j]?
 | [],n,arr,_,_=>⟨arr,rfl,rfl,fun _ _=>rfl,by simp⟩
 |(m,v)::ps,n,arr,h,f=>by
  obtain ⟨hm,hv⟩:=h 0 (m,v) rfl;simp only [ee] at hm hv;have hm':n=m:=hm.symm;subst hm';clear hm;have hf:=wB v.cells.toList (n*size) arr;have hlen:v.cells.toList.length=size:=by simpa using hv
  have hN':(n+1+ps.length)*size<=arr.size:=by rw [bt] at f; rw [Nat.add_right_comm,dV]; exact f
  obtain ⟨r,g1,g2,g3,g4⟩:=Ct size ps (n+1) _ (fun i p b=>by obtain ⟨t,l⟩:=h (i+1) p b; exact ⟨by omega,l⟩) (by rw [hf.1]; exact hN')
  have d:n*size+size<=arr.size:=by
   have:(n+1)*size<=(n+1+ps.length)*size:=bg _ ar;rw [AE] at this; omega
  refine ⟨r,?_,by rw [g2,hf.1],fun k q=>?_,fun i p b j hj=>?_⟩
  ·simp only [Instr.fill];rw [aV (by grind)];rw [<- g1]
   congr 1
   grind [Array.toList_zipIdx]
  ·grind
  ·cases i with
   | zero=>
    grind
   | succ i=>
    grind
section
variable {Γ:ce} (hΓ:Γ.OK) {T:eS} (hT:T.OK Γ.P) {C:FuncId->List AV->AV->Prop} {bx:List (Nat×List AV)} {e:Operand->AV} {K:AV->Prop} {o:Oper} {a:Act} {w:World} {c:dE} {ty:TypeId}
 {next:Act->World->Prop} {Q:Exit->Act->World->Prop}
include hΓ hT in
theorem CT {t} {n} {parts} (h:gG T C bx e ty (.buildSlice t n parts) K) (ho:o.op = .buildSlice t n parts) (hW:WI Γ c bx w)
  (hE:∀ p∈parts.toList,RC c (e p.2) (a.eval p.2)) (hn:Vf Γ c bx w o a K next):o.wpIn Γ.F Γ.n Γ.P a w next Q:=by
 unfold gG at h;simp only at h;split at h
 ·exact h.elim
 rename_i i hi;split at h
 ·exact h.elim
 rename_i j hj
 cases l:Nat.beq i.kind 3&&Nat.beq parts.toList.length n&&Nat.ble (n*j.size) 100000 with
 | false=>grind
 | true=>
  rw [l] at h;simp only [aR] at h;simp only [al] at l;obtain ⟨⟨E,B⟩,M⟩:=l;have hlen:=aj B;have hmax:=ah M;have hu:=d6 hT hi (aj E);split at h
  ·rename_i xs zs G N;obtain ⟨z,J,_,_⟩:=yU hT (w:=w) (c:=c) hj N;obtain ⟨q1,X,q3,q4⟩:=sL _ _ _ _ G
   -- the cells
   obtain ⟨zero,hzero⟩:∃ zero:Array Value,zero=if n*j.size=0 then #[] else z.cells:=⟨_,rfl⟩
   have L:∀ i p,(parts.toList.map fun (j,x)=>(j,a.eval x))[i]?=some p->p.1=0+i/\p.2.cells.size=j.size:=by
    intro i p hp;rw [aQ] at hp;obtain ⟨q,Z,rfl⟩:=aA.1 hp;obtain ⟨r1,cs,A,D⟩:=q4 i q Z;refine ⟨r1,?_⟩;have:=(sI D (hE q (aC Z))).1;rw [<- this];exact X cs (aC A)
   obtain ⟨r,g1,g2,g3,g4⟩:=Ct j.size _ 0 ((Array.range (n*j.size)).map (zero[· % zero.size]!)) L (by simp [<- hlen]);obtain ⟨W1,W2,W3⟩:=hW.allocData r i.elem
   have U:RD (c.m.with fun b o=>if b=w.heap.size then r[o]? else c.m b o) (.sl .full j.size xs) (.slice (some ⟨w.heap.size,0,none⟩) n n):=by
    have d:∀ (i:Nat) (x:List AV) (k:Nat) (y:AV),xs[i]?=some x->x[k]?=some y->∃ v,r[i*j.size+k]?=some v/\RD c.m y v:=by
     intro i x k y hx hy;have f:i<parts.toList.length:=by rw [<- q1]; exact (am.1 hx).1
     obtain ⟨r1,cs,A,D⟩:=q4 i _ (ai f);rw [hx] at A;cases A;obtain ⟨s1,s2,s3⟩:=sI D (hE _ (bT f));have hxl:=X x (aC hx);have hkl:k<x.length:=(am.1 hy).1;have:=g4 i (_,a.eval (parts.toList[i]).2) (by rw [aQ,ai f]; rfl) k ar;rw [bI] at this;have H:k<(a.eval (parts.toList[i]).2).cells.size:=by omega
     refine ⟨(a.eval (parts.toList[i]).2).cells[k],by grind,?_⟩;exact s3 k y _ hy (aE H)
    refine .sl _ _ _ _ _ _ (by intro k l; cases l) (fun _=>rfl) (by rw [q1,hlen]) (ba _) X q3 w.heap.size 0 (fun _=>rfl) (fun i k=>(r[i*j.size+k]?).getD Go.undef) (fun i x k y hx hy=>?_) (fun i x k y hx hy=>?_)
    ·obtain ⟨v,hv,_⟩:=d i x k y hx hy;show (if _ then _ else _)=_; rw [aX rfl,bI,hv]; rfl
    ·obtain ⟨v,hv,hr⟩:=d i x k y hx hy;rw [hv];exact hr.mono W2.m
   refine cT hΓ (by grind) (v := .slice (some ⟨w.heap.size,0,none⟩) n n) (w':=w.alloc (.cells r i.elem)) ?_ (hn _ _ _ _ (by rw [Du] at h; exact h) W2 W1 W3 (RC.of_RD U));simp only [execOp,ho,Instr.buildSlice,aD,aY hu,aw,eQ hT hj];rw [aV ar];by_cases u:n*j.size=0
   ·rw [aX u] at hzero;subst hzero;simp only [u,c5,aD,aL,aw,yq,newRow,oL] at g1 ⊢;rw [g1];simp only [aD,aL,aw,newRow,vJ,oL]
   ·rw [aV u] at hzero;subst hzero;simp only [u,cu,aD,J,aL,aw,yq,g1,newRow,vJ,oL]
  ·exact h.elim
end
open Go
open Go.RowKit (Below)
section
variable {Γ:ce} (hΓ:Γ.OK) {T:eS} (hT:T.OK Γ.P) {bx:List (Nat×List AV)} {e:Operand->AV} {K:AV->Prop} {o:Oper} {a:Act} {w:World} {c:dE} {ty:TypeId}
 {next:Act->World->Prop} {Q:Exit->Act->World->Prop}
include hΓ in
theorem zJ (m:Machine):m.fenced Γ.P Γ.F:=by
 intro g _;refine ⟨fun h=>?_,.inl (hΓ.fn _),fun f _=>hΓ.fn f,fun d h=>?_⟩
 ·rw [hΓ.alive] at h; cases h
 ·rw [hΓ.depth] at h; cases h
include hΓ in
theorem gM {f} {args} {R} (h:Calls Γ.P f args w R) (n):CallsIn Γ.F n Γ.P f args w R:=by
 refine ⟨hΓ.fn f,fun cs _=>?_⟩;obtain ⟨e,w',fr,h1,h2,d,b⟩:=h cs;refine ⟨e,w',fr,h1,?_,d,b⟩
 cases e with
 | returned v=>exact (StepsIn.of_steps h2).mono fun m _=>zJ hΓ m
 | panicked i=>exact (StepsIn.of_steps h2).mono fun m _=>zJ hΓ m
 | outgrown=>exact h2
include hΓ in
theorem MF (b:WI Γ c bx w) {f} {args} {r} (h:aq Γ.P f args r) {vs:List Value} (hl:args.length=vs.length) (d:∀ (i:Nat) (x:AV) (v:Value),args[i]?=some x->vs[i]?=some v->RD c.m x v) :
  Calls Γ.P f vs.toArray w fun e w'=>∃ v c',e = .returned v/\RC c' r v/\c.le c'/\WI Γ c' bx w'/\NC w w':=by
 refine (h.2 c.m w vs b.sub (hΓ.gm.trans b.le0) hl d).mono ?_;rintro e w' ⟨v,m',rfl,h1,h2,j,n,p,l⟩;obtain ⟨g1,g2,g3⟩:=b.grow n l h2 j p;exact ⟨v,_,rfl,RC.of_RD (c:={ c with m:=m' }) h1,g2,g1,g3⟩
include hΓ in
theorem Hu {f} {args} {r} (h:aq Γ.P f args r) (q:WI Γ c bx w) {vs:List Value} (hl:args.length=vs.length) (j:∀ (i:Nat) (x:AV) (v:Value),args[i]?=some x->vs[i]?=some v->RD c.m x v)
  (d:∀ c,o.op≠.defer c) (b:(execOp a.eval o).run Γ.P w = .ok (.enter f vs.toArray) w) (u:K r) (p:Vf Γ c bx w o a K next):o.wpIn Γ.F Γ.n Γ.P a w next Q:=by
 refine ⟨fun f _=>hΓ.fn f,?_⟩;rw [ju _ _ _ d,b,oM];refine ⟨fun h=>(by rw [hΓ.depth] at h; cases h),(gM hΓ (MF hΓ q h hl j) _).mono ?_⟩;rintro e w' ⟨v,c',rfl,h1,h2,l,t⟩;exact p r v w' c' u h2 l t h1
theorem I4 {args:List Operand} (d:∀ x∈args,RC c (e x) (a.eval x)) {cap} {vs} (hl:cap.length=vs.length) (f:∀ (i:Nat) (x:AV) (v:Value),cap[i]?=some x->vs[i]?=some v->RD c.m x v) :
  ((args.map fun x=>(e x).pub)++cap).length=(args.map a.eval++vs).length/\∀ (i:Nat) (x:AV) (v:Value),((args.map fun x=>(e x).pub)++cap)[i]?=some x->(args.map a.eval++vs)[i]?=some v->RD c.m x v:=by
 refine ⟨by simp [hl],fun i x v h1 h2=>?_⟩;by_cases hi:i<args.length
 ·rw [dp (by simpa using hi),aQ] at h1;rw [dp (by simpa using hi),aQ] at h2;obtain ⟨q,b,rfl⟩:=aA.1 h1;rw [b] at h2;simp only [bH,aB] at h2;subst h2;exact (d q (aC b)).pub
 grind
include hΓ in
theorem Ya {call} {f} (b:call.callee = .value f) (h:gG T (aq Γ.P) bx e ty (.call call) K) (u:o.op = .call call) (A:WI Γ c bx w)  (hf:RC c (e f) (a.eval f)) (q:∀ x∈call.args.toList,RC c (e x) (a.eval x)) (z:Vf Γ c bx w o a K next):o.wpIn Γ.F Γ.n Γ.P a w next Q:=by
 unfold gG at h;simp only [b] at h
 have j:∀ g cap,a.eval f = .func (.func g) #[] cap->(resolve a.eval call o.type).run Γ.P w = .ok { target := .fn (.func g) cap,args:=#[]++call.args.map a.eval } w:=by
  intro g cap d;simp only [resolve,b,d,Deferred.ofValue,aL]
 have l:∀ g cap ag r,a.eval f = .func (.func g) #[] cap->aq Γ.P g ag r->(execOp a.eval o).run Γ.P w = .ok (.enter g (call.args.toList.map a.eval++cap.toList).toArray) w:=by
  intro g cap ag r d p;simp only [execOp,u,aD,j g cap d,aw,invoke,p.1 _ w]
  congr 2
  apply pW;simp
 split at h
 ·rename_i g d;obtain ⟨r,p,t⟩:=h;rw [d] at hf;obtain ⟨h1,h2⟩:=I4 (c:=c) (a:=a) (e:=e) q (cap:=[]) (vs:=[]) rfl cU;rw [bR] at h1 h2;exact Hu hΓ p A h1 h2 (by grind) (l g #[] _ r hf.fn p) t z
 ·rename_i g cap d;obtain ⟨r,p,t⟩:=h;rw [d] at hf;have hf':RD c.m (.clo g cap) (a.eval f):=hf;generalize hv:a.eval f=B at hf'
  cases hf' with
  | clo _ _ vs hl y=>
   obtain ⟨h1,h2⟩:=I4 (c:=c) (a:=a) (e:=e) q (cap:=cap) (vs:=vs.toList) (by simpa using hl) (fun i x v g1 g2=>y i x v g1 (by simpa using g2));grind [Hu]
 ·exact h.elim
end
open Go
section
variable {Γ:ce} (hΓ:Γ.OK) {T:eS} (hT:T.OK Γ.P) {bx:List (Nat×List AV)} {e:Operand->AV} {K:AV->Prop} {o:Oper} {a:Act} {w:World} {c:dE} {ty:TypeId}
 {next:Act->World->Prop} {Q:Exit->Act->World->Prop}
include hΓ hT in
theorem Cf {op} (h:gG T (aq Γ.P) bx e ty op K) (i:o.op=op) (q:WI Γ c bx w) (l:∀ x∈op.operands,RC c (e x) (a.eval x)) (u:Vf Γ c bx w o a K next):o.wpIn Γ.F Γ.n Γ.P a w next Q:=by
 have v:∀ {A:Op},o.op=A->(∀ c,A≠.defer c)->∀ c,o.op≠.defer c:=fun h1 h2 c=>by rw [h1]; exact h2 c
 cases op with
 | move x=>exact (X7 h i (l x (by simp [Op.operands]))).wp hΓ q (v i (by intro c j; cases j)) u
 | assign x=>exact (R9 h i (l x (by simp [Op.operands]))).wp hΓ q (v i (by intro c j; cases j)) u
 | pick x y z=>exact (X6 h i (l x (by simp [Op.operands])) (l y (by simp [Op.operands])) (l z (by simp [Op.operands]))).wp hΓ q (v i (by intro c j; cases j)) u
 | binOp op t x y D=>exact (VM hT h i (l x (by simp [Op.operands])) (l y (by simp [Op.operands]))).wp hΓ q (v i (by intro c j; cases j)) u
 | unOp op t x=>exact (X5 h i (l x (by simp [Op.operands]))).wp hΓ q (v i (by intro c j; cases j)) u
 | load t x=>exact (X8 hT q h i (l x (by simp [Op.operands]))).wp hΓ q (v i (by intro c j; cases j)) u
 | nilCheck x=>exact (Lz h i (l x (by simp [Op.operands]))).wp hΓ q (v i (by intro c j; cases j)) u
 | fieldAddr t x f=>exact (Hr hT h i (l x (by simp [Op.operands]))).wp hΓ q (v i (by intro c j; cases j)) u
 | field t x f=>exact (VK hT h i (l x (by simp [Op.operands]))).wp hΓ q (v i (by intro c j; cases j)) u
 | indexAddr t x y=>exact (Hq hT h i (l x (by simp [Op.operands])) (l y (by simp [Op.operands]))).wp hΓ q (v i (by intro c j; cases j)) u
 | index t x y=>exact (VJ hT h i (l x (by simp [Op.operands])) (l y (by simp [Op.operands]))).wp hΓ q (v i (by intro c j; cases j)) u
 | slice t x lo hi E=>
  refine (VI hT h i (l x (by simp [Op.operands])) (fun y hy=>l y ?_) (fun y hy=>l y ?_) (fun y hy=>l y ?_)).wp hΓ q (v i (by intro c j; cases j)) u <;>
   (subst hy; simp [Op.operands])
 | sliceToArrayPointer t x=>exact (VH hT h i (l x (by simp [Op.operands]))).wp hΓ q (v i (by intro c j; cases j)) u
 | extract x n=>exact (Pg h i (l x (by simp [Op.operands]))).wp hΓ q (v i (by intro c j; cases j)) u
 | convert s d x=>exact (Ph hT h i (l x (by simp [Op.operands]))).wp hΓ q (v i (by intro c j; cases j)) u
 | build t parts=>exact (VL hT h i (fun p B=>l p.2 (by simp only [Op.operands,List.mem_toArray,bp]; exact ⟨p,B,rfl⟩))).wp hΓ q (v i (by intro c j; cases j)) u
 | buildSlice t n parts=>exact CT hΓ hT h i q (fun p B=>l p.2 (by simp only [Op.operands,List.mem_toArray,bp]; exact ⟨p,B,rfl⟩)) u
 | call call=>
  obtain ⟨callee,args,G⟩:=call
  cases callee with
  | value f=>exact Ya hΓ rfl h i q (l f (by simp [Op.operands,Call.operands])) (fun x hx=>l x (by grind [Op.operands,Call.operands])) u
  | invoke r m=>exact h.elim
  | builtin b=>
   have hE':∀ x∈args.toList,RC c (e x) (a.eval x):=fun x hx=>l x (by grind [Op.operands,Call.operands])
   cases b with
   | len=>exact (Zt hT h i hE').wp hΓ q (v i (by intro c j; cases j)) u
   | max=>exact (Hp (big:=true) h i hE').wp hΓ q (v i (by intro c j; cases j)) u
   | min=>exact (Hp (big:=false) h i hE').wp hΓ q (v i (by intro c j; cases j)) u
   | _=>exact h.elim
 | _=>exact h.elim
end
open Go
open Go.RowKit (Below)
theorem BV {α:Type}:∀ (l:List α) (n:Nat) (v:α) (x:α),x∈dD l n v->x=v\/x∈l
 | [],n,v,x,h=>by simp [dD] at h
 | y::r,0,v,x,h=>by
  grind [dD,List.mem_cons_of_mem]
 | y::r,n+1,v,x,h=>by
  simp only [dD,bF] at h;rcases h with h | h
  ·exact .inr (by rw [h]; exact a7 ..)
  ·rcases BV r n v x h with h | h
   ·exact .inl h
   ·exact .inr (a6 _ h)
theorem nr {α:Type}:∀ (vs:List α) (l:List α) (off:Nat) (x:α),x∈setMany l off vs->x∈vs\/x∈l
 | [],l,off,x,h => .inr h
 | v::vs,l,off,x,h=>by
  simp only [setMany] at h;rcases nr vs _ _ x h with h | h
  ·exact .inl (a6 _ h)
  ·rcases BV _ _ _ _ h with h | h
   ·exact .inl (by rw [h]; exact a7 ..)
   ·exact .inr h
section
variable {Γ:ce} {c:dE} {bx:List (Nat×List AV)} {w:World}
theorem oW {w} {b} (h:ej w b) (g) (vs):ej (w.setRow g vs) b:=by
 obtain ⟨c,T,h⟩:=h;by_cases e:b=g
 ·subst e; exact ⟨vs,T,x3 _ _ _ _ _ _ h⟩
 ·exact ⟨c,T,by rw [jk _ _ _ _ e]; exact h⟩
theorem sc {g} {old} {T} {fr} (e:w.heap[g]?=some (.cells old T fr)) (vs):NC w (w.setRow g vs):=by
 refine ⟨by simp,fun b o a d=>?_,⟨ba _⟩,fun b a=>oW a g vs⟩;by_cases h:b=g
 ·subst h; rw [e] at a; cases a; cases d
 grind [setRow_other]
theorem lN (o) (a:tS o):NC w (w.alloc o):=⟨by simp,fun b p d _=>by grind [Below.heap_alloc],.alloc w a,fun _ h=>w9 h o⟩
theorem WI.storeBox (l:WI Γ c bx w) {d} {cs n} (h:get bx d=some cs) (j:cs≠[]) {vs'} (hl:n.length=vs'.size) (L:∀ x∈n,x.isCell=true)
  (H:∀ (i:Nat) (x:AV) (v:Value),n[i]?=some x->vs'[i]?=some v->fp c x v):WI Γ c ((d,n)::bx) (w.setRow (c.ρ d) vs')/\NC w (w.setRow (c.ρ d) vs'):=by
 obtain ⟨h1,h2,P,vs,T,B,N,Q⟩:=l.box d cs h j;have X:=l.ext.size
 refine ⟨⟨l.ext.trans ⟨rfl,rfl,rfl,by simp,fun k M=>jk _ _ _ _ (by grind)⟩,⟨fun b o v hm=>?_,fun b x hx=>by
  have hx:=l.sub.map b x hx;grind [setRow_other]⟩,l.le0,l.new.keep (fun _ h=>oW h _ _),fun r ds a f=>?_,fun D A c1 c2 g1 g2 n1 n2 u=>?_,fun k=>?_,fun k b o hx=>?_⟩,sc B _⟩
 ·by_cases E:b=c.ρ d
  ·grind
  ·rw [VD _ _ _ _ E]; exact l.sub.cell b o v hm
 ·rw [a8] at a;split at a
  ·rename_i p;subst p;cases a;exact ⟨h1,h2,L,vs',T,x3 _ _ _ _ _ _ B,hl,H⟩
  ·rename_i p;obtain ⟨g1,g2,g3,us,U,g4,g5,g6⟩:=l.box r ds a f;refine ⟨g1,g2,g3,us,U,?_,g5,g6⟩;rw [jk _ _ _ _ (fun e=>p (l.inj r d ds cs a h f j e))]; exact g4
 ·rw [a8] at g1 g2;split at g1
  ·rename_i z;split at g2
   ·rename_i y; rw [z,y]
   ·rename_i y;rw [z] at u ⊢;exact l.inj d A cs c2 h g2 j n2 u
  ·rename_i z;split at g2
   ·rename_i y;rw [y] at u ⊢;exact l.inj D d c1 cs g1 h n1 j u
   ·exact l.inj D A c1 c2 g1 g2 n1 n2 u
 ·have q:=l.own k;refine ⟨fun g t=>?_,q.shape,fun g r ds t a f=>?_,q.apart⟩
  ·obtain ⟨len,cap,U,cells,F,J,G⟩:=q.blk g t;refine ⟨len,cap,U,cells,F,?_,G⟩;rw [jk _ _ _ _ (fun e=>q.box g d cs t h j e.symm)]; exact J
  ·rw [a8] at a;split at a
   ·rename_i e; rw [e]; exact q.box g d cs t h j
   ·exact q.box g r ds t a f
 ·have m:=l.xo k b o hx;refine ⟨m.new,?_,m.kept,m.mem,m.map,fun r ds a f=>?_,m.own,m.inj⟩
  ·rw [jk _ _ _ _ (fun e=>m.box d cs h j e.symm)]; exact m.obj
  ·rw [a8] at a;split at a
   ·rename_i e; rw [e]; exact m.box d cs h j
   ·exact m.box r ds a f
def dE.at (c:dE) (d b:Nat):dE:={ c with ρ:=fun j=>if j=d then b else c.ρ j }
theorem fp.at_cell {x} {v} (h:fp c x v) (hx:x.isCell=true) (d b):fp (c.at d b) x v:=by
 cases x with
 | loc a o=>simp [AV.isCell] at hx
 | sl o sz xs=>cases o <;> exact h
 | _=>exact h
theorem RC.unloc {x} {v} (h:RC c x v) (d b):RC (c.at d b) (x.unloc d) v:=by
 cases x with
 | loc j o=>
  simp only [AV.unloc]
  cases n:Nat.beq d j with
  | true=>exact RD.junk v
  | false=>
   have a:j≠d:=fun e=>by grind [Nat.beq_refl]
   show v=_;simp only [dE.at,aV a];exact h
 | agg cs=>
  obtain ⟨vs,h1,h2,l,m⟩:=h;exact ⟨vs,h1,h2,l,fun i x u g1 g2=>(m i x u g1 g2).at_cell (l x (aC g1)) d b⟩
 | sl o sz xs=>
  have h1:=(ec (by intro cs f; cases f)).1 h;exact (ec (by intro cs f; cases f)).2 (h1.at_cell rfl d b)
 | _=>exact h
theorem P3 (d) (t) (k):get (unloc d t) k=(get t k).map (AV.unloc d):=by unfold unloc; rw [o5]; exact lu (fun (_:Nat) (v:AV)=>v.unloc d) t k
theorem WI.newBox (j:WI Γ c bx w) (d) (T) {cs} {vs} (hl:cs.length=vs.size) (E:∀ x∈cs,x.isCell=true)
  (L:∀ (i:Nat) (x:AV) (v:Value),cs[i]?=some x->vs[i]?=some v->fp c x v):WI Γ (c.at d w.heap.size) ((d,cs)::bx) (w.alloc (.cells vs T)):=by
 have F:=j.ext.size
 have B:∀ o,c.m w.heap.size o=none:=fun o=>by
  cases hm:c.m w.heap.size o with
  | none=>rfl
  | some v=>have:=j.lt_m hm; omega
 refine ⟨j.ext.alloc F _,⟨fun b o v hm=>?_,fun b x hx=>(gD _ _ _ (j.lt_map hx)).trans (j.sub.map b x hx)⟩,j.le0,j.new.keep (fun _ h=>w9 h _),fun p ds a f=>?_,fun H G c1 c2 g1 g2 n1 n2 l=>?_,fun k=>?_,fun k b o hx=>?_⟩
 ·rw [lO _ _ _ (show (⟨b,o,none⟩:Addr).block<_ from j.lt_m hm)]; exact j.sub.cell b o v hm
 ·rw [a8] at a;split at a
  ·rename_i q;cases a;have l:(c.at d w.heap.size).ρ p=w.heap.size:=by simp [dE.at,q]
   rw [l];exact ⟨iJ F,B,E,vs,T,fq _ _,hl,fun i x v g1 g2=>(L i x v g1 g2).at_cell (E x (aC g1)) d _⟩
  ·rename_i q;have l:(c.at d w.heap.size).ρ p=c.ρ p:=by simp [dE.at,q]
   rw [l];obtain ⟨g1,g2,g3,us,U,g4,g5,g6⟩:=j.box p ds a f;exact ⟨g1,g2,g3,us,U,(gD _ _ _ (j.lt_box a f)).trans g4,g5,fun i x v z D=>(g6 i x v z D).at_cell (g3 x (aC z)) d _⟩
 ·rw [a8] at g1 g2;simp only [dE.at] at l;split at g1
  ·rename_i y;split at g2
   ·rename_i r; rw [y,r]
   ·rename_i r;rw [aX y,aV r] at l;have:=j.lt_box g2 n2;omega
  ·rename_i y;split at g2
   ·rename_i r;rw [aX r,aV y] at l;have:=j.lt_box g1 n1;omega
   ·rename_i r;rw [aV y,aV r] at l;exact j.inj H G c1 c2 g1 g2 n1 n2 l
 ·have A:=j.own k;refine ⟨fun g u=>?_,A.shape,fun g p ds u a f=>?_,A.apart⟩
  ·obtain ⟨len,cap,U,cells,z,D,J⟩:=A.blk g u;exact ⟨len,cap,U,cells,z,(gD _ _ _ (j.lt_own u)).trans D,J⟩
  ·rw [a8] at a;have t:=j.lt_own (k:=k) (g:=g) u;split at a
   ·rename_i e;simp only [dE.at,aX e];omega
   ·rename_i e;simp only [dE.at,aV e];exact A.box g p ds u a f
 ·have n:=j.xo k b o hx;have t:=j.lt_x hx;refine ⟨n.new,(gD _ _ _ t).trans n.obj,n.kept,n.mem,n.map,fun p ds a f=>?_,n.own,n.inj⟩;rw [a8] at a;split at a
  ·rename_i e;simp only [dE.at,aX e];omega
  ·rename_i e;simp only [dE.at,aV e];exact n.box p ds a f
end
open Go
open Go.RowKit (Below)
section
variable {Γ:ce} {c:dE} {bx:List (Nat×List AV)} {w:World}
def DN (k:Nat) (bx:List (Nat×List AV)):List (Nat×List AV):=Il (AV.dem1 k) bx
theorem To (k) (bx) (d):get (DN k bx) d=(get bx d).map (fun cs=>cs.map (AV.dem1 k)):=by unfold DN; rw [yz]; exact lu (fun (_:Nat) (cs:List AV)=>cs.map (AV.dem1 k)) bx d
theorem oo {k d} {cs} (h:get (DN k bx) d=some cs) (a:cs≠[]):∃ ds,get bx d=some ds/\ds≠[]/\cs=ds.map (AV.dem1 k):=by
 rw [To] at h;obtain ⟨ds,h1,h2⟩:=aA.1 h;grind
def dE.mem (c:dE) (m:dI):dE:={ c with m:=m }
theorem Qo {cs:List AV} {vs:Array Value} {k} {u} {sz} {m'} (hle:c.m.le m') (h:cs.length=vs.size/\∀ (i:Nat) (x:AV) (v:Value),cs[i]?=some x->vs[i]?=some v->fp c x v) :
  (cs.map (AV.dem1 k)).length=vs.size/\∀ (i:Nat) (x:AV) (v:Value),(cs.map (AV.dem1 k))[i]?=some x->vs[i]?=some v->fp ((c.mem m').own k u sz) x v:=by
 refine ⟨by simpa using h.1,fun i x v g1 g2=>?_⟩;rw [aQ] at g1;obtain ⟨y,hy,rfl⟩:=aA.1 g1;exact ((h.2 i y v hy g2).mono (c':=c.mem m') ⟨hle,rfl,rfl,rfl,rfl,rfl⟩).own
theorem jN (k j) (u) (sz) (m'):dc ((c.mem m').own k u sz) j=if j=k then kW u else dc c j:=by
 by_cases h:j=k
 ·simp only [dc,dE.own,dE.mem,aX h]
 ·simp only [dc,dE.own,dE.mem,aV h]
theorem WI.reown (l:WI Γ c bx w) {k sz} {u} {m'} {w'} (hle:c.m.le m') (hs:m'.sub w') (gk) (r:dc c k=some gk\/w.heap.size<=gk)
  (hn:∀ b o v,m' b o=some v->c.m b o=some v\/(b=gk/\ej w' gk)) (J:m'.maps=c.m.maps) (U:w'.os=w.os) (E:w'.tape=w.tape) (F:w'.output=w.output) (D:w.heap.size<=w'.heap.size)
  (p:∀ b,b<w.heap.size->b≠gk->w'.heap[b]?=w.heap[b]?) (M:NC w w')
  (z:nc (sfree Γ.w0 k) u)
  (hu:∀ g,kW u=some g->g=gk/\∃ len cap T,∃ cells:Array Value,u = .slice (some ⟨g,0,none⟩) len cap/\w'.heap[g]?=some (.cells cells T (0,0))/\cells.size=cap*sz /\
   ∀ o,len*sz<=o->m' g o=none) :
  WI Γ ((c.mem m').own k u sz) (DN k bx) w'/\NC w w':=by
 have hB:=l.ext.size
 have L:zk Γ.w0 k gk:=by
  rcases r with h | h
  ·obtain ⟨_,_,_,_,_,_,_,_,h5⟩:=(l.own k).blk gk h; exact h5
  ·exact SN ar
 have hgB:free Γ.w0 gk:=L.free
 have A:∀ d cs,get bx d=some cs->cs≠[]->c.ρ d≠gk:=fun d cs h f e=>by
  rcases r with q | q
  ·exact (l.own k).box gk d cs q h f e
  ·have:=l.lt_box h f; omega
 refine ⟨⟨l.ext.trans ⟨U,E,F,D,fun b hb=>p b (dm (not_free hb) hB) (j8 hb hgB)⟩,hs,l.le0.trans hle,⟨fun b o v h=>?_,fun b x h=>l.new.map b x (by rw [<- J]; exact h)⟩,fun d cs h f=>?_,fun d1 d2 c1 c2 g1 g2 n1 n2 hρ=>?_,fun j=>?_,fun j b o hx=>?_⟩,M⟩
 ·rcases hn b o v h with h | h
  ·exact (l.new.cell b o v h).imp id fun ⟨h1,h2⟩=>⟨h1,M.soft b h2⟩
  grind
 ·obtain ⟨ds,h1,h2,rfl⟩:=oo h f;obtain ⟨Z,q2,P,vs,T,q4,q5,q6⟩:=l.box d ds h1 h2;have G:=A d ds h1 h2;refine ⟨Z,fun o=>?_,fun x hx=>?_,vs,T,(p _ (l.lt_box h1 h2) G).trans q4,Qo hle ⟨q5,q6⟩⟩
  ·show m' (c.ρ d) o=none
   cases hm:m' (c.ρ d) o with
   | none=>rfl
   | some v=>
    grind
  ·obtain ⟨y,hy,rfl⟩:=bp.1 hx;exact pX k (P y hy)
 ·obtain ⟨e1,Z,q2,_⟩:=oo g1 n1;obtain ⟨e2,P,q4,_⟩:=oo g2 n2;exact l.inj d1 d2 e1 e2 Z P q2 q4 hρ
 ·have hj:=l.own j;by_cases n:j=k
  ·subst n;refine ⟨fun g a=>?_,?_,fun g d cs a h f=>?_,fun g i a hi=>?_⟩
   ·rw [jN,aX rfl] at a;obtain ⟨rfl,len,cap,T,cells,r1,r2,X,r4⟩:=hu g a;exact ⟨len,cap,T,cells,by simp [dE.own,r1],r2,by simpa [dE.own] using X,fun o N=>by simp only [dE.own,c5] at N; exact r4 o N,L⟩
   ·simp only [dE.own,c5]; exact z
   ·rw [jN,aX rfl] at a;obtain ⟨rfl,_⟩:=hu g a;obtain ⟨ds,h1,h2,_⟩:=oo h f;exact A d ds h1 h2
   ·rw [jN,aX rfl] at a;obtain ⟨rfl,_⟩:=hu g a;rw [jN] at hi;by_cases H:i=j
    ·exact H
    ·rw [aV H] at hi;rcases r with q | q
     ·exact (l.own j).apart g i q hi
     ·have:=l.lt_own hi; omega
  ·have B:dc ((c.mem m').own k u sz) j=dc c j:=by rw [jN,aV n]
   have hne':∀ g,dc c j=some g->g≠gk:=fun g a e=>by
    subst e;rcases r with q | q
    ·exact n ((l.own k).apart g j q a)
    ·have:=l.lt_own a; omega
   refine ⟨fun g a=>?_,?_,fun g d cs a h f=>?_,fun g i a hi=>?_⟩
   ·rw [B] at a;obtain ⟨len,cap,T,cells,r1,r2,X,r4,r5⟩:=hj.blk g a;refine ⟨len,cap,T,cells,by simp only [dE.own,dE.mem,aV n]; exact r1,(p g (l.lt_own a) (hne' g a)).trans r2,by simp only [dE.own,dE.mem,aV n]; exact X,fun o N=>?_,r5⟩;simp only [dE.own,dE.mem,aV n] at N;show m' g o=none
    cases hm:m' g o with
    | none=>rfl
    | some v=>
     grind
   ·simp only [dE.own,dE.mem,aV n]; exact hj.shape
   ·rw [B] at a;obtain ⟨ds,h1,h2,_⟩:=oo h f;exact hj.box g d ds a h1 h2
   ·rw [B] at a;rw [jN] at hi;split at hi
    ·grind
    ·exact hj.apart g i a hi
 ·have t:=l.xo j b o hx;have Q:=l.lt_x hx
  have hne':b≠gk:=fun e=>by
   rcases r with q | q
   ·exact t.own k (by rw [q,e])
   ·omega
  refine ⟨t.new,(p b Q hne').trans t.obj,t.kept,fun i hi=>?_,(congrFun J b).trans t.map,fun d cs h f=>?_,fun i hi=>?_,t.inj⟩
  ·show m' b i=none
   cases hm:m' b i with
   | none=>rfl
   | some v=>
    rcases hn _ _ _ hm with h | h
    ·rw [t.mem i hi] at h; cases h
    ·exact absurd h.1 hne'
  ·obtain ⟨ds,h1,h2,_⟩:=oo h f;exact t.box d ds h1 h2
  ·rw [jN] at hi;split at hi
   ·grind
   ·exact t.own i hi
theorem RC.reown {x} {v} (h:RC c x v) {k sz} {u} {m'} (hle:c.m.le m'):RC ((c.mem m').own k u sz) (x.dem k) v:=
 (h.mono (c':=c.mem m') ⟨hle,rfl,rfl,rfl,rfl,rfl⟩).own
theorem WI.own_none (d:WI Γ c bx w) (k sz) (u) (a:nc (sfree Γ.w0 k) u) (e:j5 u=false) :
  WI Γ ((c.mem c.m).own k u sz) (DN k bx) w:=by
 refine (d.reown (.refl _) d.sub w.heap.size (.inr (ba _)) (fun b o v h => .inl h) rfl rfl rfl rfl (ba _) (fun _ _ _=>rfl) (.refl w) a (fun g f=>?_)).1;unfold kW at f;grind [j5]
theorem WI.own_new (d:WI Γ c bx w) (k sz len cap) (cells) (E) (f:cells.size=cap*sz) (i:len<=cap) :
  WI Γ ((c.mem (c.m.with fun b o=>if b=w.heap.size then (if o<len*sz then cells[o]? else none) else c.m b o)).own k (.slice (some ⟨w.heap.size,0,none⟩) len cap) sz) (DN k bx) (w.alloc (.cells cells E)) /\
   c.m.le (c.m.with fun b o=>if b=w.heap.size then (if o<len*sz then cells[o]? else none) else c.m b o)/\NC w (w.alloc (.cells cells E)):=by
 have hle:c.m.le (c.m.with fun b o=>if b=w.heap.size then (if o<len*sz then cells[o]? else none) else c.m b o):=⟨fun b o v h=>by
  have:=d.lt_m h;show (if b=w.heap.size then _ else _)=_;grind,fun _ _ h=>h⟩
 refine ⟨(d.reown (w':=w.alloc (.cells cells E)) hle ⟨fun b o v h=>?_,fun b x h=>(gD _ _ _ (d.lt_map (x:=x) h)).trans (d.sub.map b x h)⟩ w.heap.size (.inr (ba _)) (fun b o v h=>?_) rfl rfl rfl rfl cU (fun b l _=>gD _ _ _ l) (lN _ (ed _ _)) (.inr ⟨_,_,_,rfl,(by intro h; cases h),fun a j _=>by cases j; exact ⟨rfl,Sx d.ext.size⟩⟩) (fun g e=>?_)).1,hle,lN _ (ed _ _)⟩
 ·simp only [dI.with] at h;split at h
  ·grind [World.cell?_alloc_new]
  ·rw [lO _ _ _ (show (⟨b,o,none⟩:Addr).block<_ from d.lt_m h)];exact d.sub.cell b o v h
 ·simp only [dI.with] at h;split at h
  ·exact .inr ⟨‹_›,cells,E,fq _ _⟩
  ·exact .inl h
 ·simp only [kW] at e;split at e
  ·cases e;refine ⟨rfl,len,cap,E,cells,rfl,fq _ _,f,fun o n=>?_⟩;simp only [dI.with];grind
  ·cases e
theorem WI.own_ext (p:WI Γ c bx w) {k g len cap} (F:c.τ k = .slice (some ⟨g,0,none⟩) len cap) (y:len<cap) (news) (n) (z:news.length=n*c.σ k) (i:len+n<=cap)
  {cells} {T} (f:w.heap[g]?=some (.cells cells T (0,0))) :
  WI Γ ((c.mem (c.m.with fun b o=>if b=g/\len*c.σ k<=o/\o<(len+n)*c.σ k then news[o - len*c.σ k]? else c.m b o)).own k (.slice (some ⟨g,0,none⟩) (len+n) cap) (c.σ k)) (DN k bx)
    (w.setRow g (cells.toList.take (len*c.σ k)++news++cells.toList.drop (len*c.σ k+news.length)).toArray) /\
   c.m.le (c.m.with fun b o=>if b=g/\len*c.σ k<=o/\o<(len+n)*c.σ k then news[o - len*c.σ k]? else c.m b o)/\NC w (w.setRow g (cells.toList.take (len*c.σ k)++news++cells.toList.drop (len*c.σ k+news.length)).toArray):=by
 have e:dc c k=some g:=by simp [dc,kW,F,y]
 obtain ⟨D,G,X,r,h1,h2,U,N,L⟩:=(p.own k).blk g e;rw [F] at h1;cases h1;rw [f] at h2;cases h2;have E:(len+n)*c.σ k<=cap*c.σ k:=bg _ i;have B:(len+n)*c.σ k=len*c.σ k+news.length:=by rw [dk,z]
 have hle:c.m.le (c.m.with fun b o=>if b=g/\len*c.σ k<=o/\o<(len+n)*c.σ k then news[o - len*c.σ k]? else c.m b o):=⟨fun b o v h=>by
  by_cases j:b=g/\len*c.σ k<=o/\o<(len+n)*c.σ k
  ·grind
  ·show (if _ then _ else _)=_;rw [aV j]; exact h,fun _ _ h=>h⟩
 have l:∀ o:Nat,(cells.toList.take (len*c.σ k)++news++cells.toList.drop (len*c.σ k+news.length)).toArray[o]?=if len*c.σ k<=o/\o<(len+n)*c.σ k then news[o - len*c.σ k]? else cells[o]?:=fun o=>by
  have u:(cells.toList.take (len*c.σ k)).length=len*c.σ k:=by simp; omega
  rw [eN];by_cases H:o<len*c.σ k
  ·grind
  ·by_cases M:o<(len+n)*c.σ k
   ·grind
   ·rw [aV ar,cF (by simp; omega),da];simp only [bY,u];rw [show len*c.σ k+news.length+(o - (len*c.σ k+news.length))=o by omega]; simp
 refine ⟨(p.reown (w':=w.setRow g (cells.toList.take (len*c.σ k)++news++cells.toList.drop (len*c.σ k+news.length)).toArray) hle ⟨fun b o v h=>?_,fun b x h=>?_⟩ g (.inl e) (fun b o v h=>?_) rfl rfl rfl rfl cU (fun b q t=>jk _ _ _ _ t) (sc f _) (.inr ⟨_,_,_,rfl,(by intro h; cases h),fun a J _=>by cases J; exact ⟨rfl,L.sfree⟩⟩) (fun P d=>?_)).1,hle,sc f _⟩
 ·simp only [dI.with] at h;by_cases q:b=g
  ·subst q;rw [cell_setRow_same _ _ _ _ _ _ _ f,l];by_cases j:len*c.σ k<=o/\o<(len+n)*c.σ k
   ·grind
   ·rw [aV (fun A=>j A.2)] at h;rw [aV j];have:=p.sub.cell b o v h;simpa [World.cell?,f] using this
  ·rw [aV (fun A=>q A.1)] at h;rw [VD _ _ _ _ q]; exact p.sub.cell b o v h
 ·have hx:=p.sub.map b x h;grind [setRow_other]
 ·simp only [dI.with] at h;by_cases j:b=g/\len*c.σ k<=o/\o<(len+n)*c.σ k
  ·exact .inr ⟨j.1,_,T,x3 _ _ _ _ _ _ f⟩
  grind
 ·simp only [kW] at d;split at d
  ·cases d;refine ⟨rfl,len+n,cap,T,_,rfl,x3 _ _ _ _ _ _ f,?_,fun o Q=>?_⟩
   ·grind
   ·simp only [dI.with];grind
  ·cases d
end
open Go
open Go.RowKit (Below)
section
variable {Γ:ce} {c:dE} {bx:List (Nat×List AV)} {w:World}
theorem WI.freeze (j:WI Γ c bx w) {d} {cs} (h:get bx d=some cs) (l:cs≠[]):∃ m',c.m.le m'/\WI Γ (c.mem m') ((d,[])::bx) w /\
  RD m' (.ref (cs.map AV.pub1)) (.pointer (some ⟨c.ρ d,0,none⟩)):=by
 obtain ⟨h1,h2,N,vs,T,G,X,P⟩:=j.box d cs h l
 have hle:c.m.le (c.m.with fun b o=>if b=c.ρ d then vs[o]? else c.m b o):=⟨fun b o v hm=>by
  show (if _ then _ else _)=_;grind,fun _ _ h=>h⟩
 refine ⟨_,hle,⟨j.ext,⟨fun b o v hm=>?_,j.sub.map⟩,j.le0.trans hle,⟨fun b o v hm=>?_,j.new.map⟩,fun q ds a f=>?_,fun H E c1 c2 g1 g2 n1 n2 Q=>?_,fun k=>?_,fun k b o hx=>?_⟩,?_⟩
 ·simp only [dE.mem,dI.with] at hm;split at hm
  ·grind [World.cell?]
  ·exact j.sub.cell b o v hm
 ·simp only [dE.mem,dI.with] at hm;split at hm
  ·rename_i F; exact .inr (by rw [F]; exact ⟨h1,vs,T,G⟩)
  ·exact j.new.cell b o v hm
 ·rw [a8] at a;split at a
  ·grind
  ·rename_i A;obtain ⟨g1,g2,g3,us,U,g4,g5,g6⟩:=j.box q ds a f;refine ⟨g1,fun o=>?_,g3,us,U,g4,g5,fun i x v t r=>(g6 i x v t r).mono (c':=c.mem _) ⟨hle,rfl,rfl,rfl,rfl,rfl⟩⟩;show (if c.ρ q=c.ρ d then _ else _)=_;rw [aV (fun e=>A (j.inj q d ds cs a h f l e))]; exact g2 o
 ·rw [a8] at g1 g2;split at g1
  ·grind
  ·split at g2
   ·grind
   ·exact j.inj H E c1 c2 g1 g2 n1 n2 Q
 ·have u:=j.own k;refine ⟨fun g z=>?_,u.shape,fun g q ds z a f=>?_,u.apart⟩
  ·obtain ⟨len,cap,U,cells,t,r,J,M,L⟩:=u.blk g z;refine ⟨len,cap,U,cells,t,r,J,fun o D=>?_,L⟩;show (if g=c.ρ d then _ else _)=_;rw [aV (fun e=>u.box g d cs z h l e.symm)]; exact M o D
  ·rw [a8] at a;split at a
   ·grind
   ·exact u.box g q ds z a f
 ·have n:=j.xo k b o hx;refine ⟨n.new,n.obj,n.kept,fun i hi=>?_,n.map,fun q ds a f=>?_,n.own,n.inj⟩
  ·show (if b=c.ρ d then _ else _)=_;rw [aV (fun e=>n.box d cs h l e.symm)]; exact n.mem i hi
  ·rw [a8] at a;split at a
   ·grind
   ·exact n.box q ds a f
 ·have p:∀ (i:Nat) (y:AV),(cs.map AV.pub1)[i]?=some y->∃ x v,cs[i]?=some x/\vs[i]?=some v/\y=x.pub1:=by
   intro i y hy;rw [aQ] at hy;obtain ⟨x,hx,rfl⟩:=aA.1 hy;have B:i<vs.size:=by have:=(am.1 hx).1; omega
   exact ⟨x,vs[i],hx,aE B,rfl⟩
  refine .ref _ _ _ (fun y hy=>?_) (fun i=>(vs[i]?).getD Go.undef) (fun i y hy=>?_) (fun i y hy=>?_)
  ·obtain ⟨x,hx,rfl⟩:=bp.1 hy;exact fK (N x hx)
  ·obtain ⟨x,v,t,r,rfl⟩:=p i y hy;show (if _ then _ else _)=_;grind
  ·obtain ⟨x,v,t,r,rfl⟩:=p i y hy;rw [r];exact (P i x v t r).pub.mono hle
theorem RC.frz {x} {v} (h:RC c x v) {m'} (hle:c.m.le m') {d} {ds} (e:RD m' (.ref ds) (.pointer (some ⟨c.ρ d,0,none⟩))):RC (c.mem m') (x.frz d ds) v:=by
 have hm:RC (c.mem m') x v:=h.mono (c':=c.mem m') ⟨hle,rfl,rfl,rfl,rfl,rfl⟩
 cases x with
 | loc f o=>
  simp only [AV.frz]
  cases b:Nat.beq d f with
  | true=>
   have a:=aj b;subst a;have hv:v=_:=h.loc;have:=e.ref_drop o;rw [bI] at this;rw [hv];exact this
  | false=>exact hm
 | _=>exact hm
end
open Go
open Go.RowKit (Below)
theorem RD.flat {m} {o} {sz} {xs} {base} {len cap} (h:RD m (.sl o sz xs) (.slice base len cap)) :
  ∃ l:List Value,l.length=len*sz/\(∀ (i:Nat) (x:List AV) (j:Nat) (c:AV),xs[i]?=some x->x[j]?=some c->∃ v,l[i*sz+j]?=some v/\RD m c v)/\(∀ v∈l,v.oneCell'=true) /\
   xs.length=len/\len<=cap/\(∀ x∈xs,x.length=sz)/\(∀ x∈xs,∀ c∈x,AV.isCell c=true)/\(0<len->∃ b off,base=some ⟨b,off,none⟩/\∀ k v,l[k]?=some v->m b (off+k)=some v):=by
 cases h with
 | sl _ _ _ _ _ _ y hf hl t e a b off q g u r=>
  have key:∀ k,k<len*sz->∃ x c,xs[k / sz]?=some x/\x[k % sz]?=some c/\k / sz*sz+k % sz=k:=by
   intro k f
   have d:0<sz:=by
    rcases ne sz with h | h
    ·grind
    ·exact h
   have h1:k / sz<xs.length:=by rw [hl]; exact (Nat.div_lt_iff_lt_mul d).2 f
   have h2:k % sz<(xs[k / sz]).length:=by rw [e _ (bT h1)]; exact nd _ d
   exact ⟨_,_,ai h1,ai h2,Nat.div_add_mod' k sz⟩
  refine ⟨(List.range (len*sz)).map fun k=>g (k / sz) (k % sz),by simp,fun i x j c hx hj=>?_,fun v hv=>?_,hl,t,e,a,fun p=>⟨b,off,q p,fun k v f=>?_⟩⟩
  ·have hi:i<len:=by rw [<- hl]; exact (am.1 hx).1
   have hj':j<sz:=by rw [<- e x (aC hx)]; exact (am.1 hj).1
   have n:i*sz+j<len*sz:=by
    have:(i+1)*sz<=len*sz:=bg _ hi;rw [AE] at this; omega
   grind
  ·obtain ⟨k,f,rfl⟩:=bp.1 hv;obtain ⟨x,c,h1,h2,z⟩:=key k (bB.1 f);exact (RD.one (r _ x _ c h1 h2) (a x (aC h1) c (aC h2))).1
  grind
theorem tx {m} {o} {sz} {xs} {b off len cap} (f:∀ k,o≠.id k) (hf:o = .full->cap=len) (hl:xs.length=len) (h:len<=cap) (d:∀ x∈xs,x.length=sz)
  (a:∀ x∈xs,∀ c∈x,AV.isCell c=true) {l:List Value} (n:∀ (i:Nat) (x:List AV) (j:Nat) (c:AV),xs[i]?=some x->x[j]?=some c->∃ v,l[i*sz+j]?=some v/\RD m c v)
  (hm:∀ k v,l[k]?=some v->k<len*sz->m b (off+k)=some v):RD m (.sl o sz xs) (.slice (some ⟨b,off,none⟩) len cap):=by
 have e:∀ (i:Nat) (x:List AV) (j:Nat) (c:AV),xs[i]?=some x->x[j]?=some c->i*sz+j<len*sz:=by
  intro i x j c hx hj;have hi:i<len:=by rw [<- hl]; exact (am.1 hx).1
  have hj':j<sz:=by rw [<- d x (aC hx)]; exact (am.1 hj).1
  have:(i+1)*sz<=len*sz:=bg _ hi;rw [AE] at this; omega
 refine .sl _ _ _ _ _ _ f hf hl h d a b off (fun _=>rfl) (fun i j=>(l[i*sz+j]?).getD Go.undef) (fun i x j c hx hj=>?_) (fun i x j c hx hj=>?_)
 ·grind
 grind
theorem la {P} {t e} {i} (n:P.underlying t=some (.slice e)) (hi:P.info? e=some i) {w} {T}
  {g sLen sd} {cur} (o:w.heap[g]?=some (.cells cur T (0,0)))
  (a) (m c) (news) (hl:news.length=m*i.size) (b:∀ j u,news[j]?=some u->w.cell? (a.add j)=some u) (h1:∀ u∈news,u.oneCell'=true)
  (d:sLen+m<=sd) (l:sLen*i.size+news.length<=cur.size) (ty) :
  (Builtin.append_ #[t,t] ty #[.slice (some ⟨g,0,none⟩) sLen sd,.slice (some a) m c]).run P w =
   .ok (.slice (some ⟨g,0,none⟩) (sLen+m) sd) (w.setRow g (cur.toList.take (sLen*i.size)++news++cur.toList.drop (sLen*i.size+news.length)).toArray):=by
 have hf:=run_firstCells_some (P:=P) w i.size m a m c news hl b;have f:=oJ P g (sLen*i.size) T news 0 cur w o (by simpa using l) h1;simp only [ee] at f;have h:(⟨g,0,none⟩:Addr).add (sLen*i.size)=⟨g,sLen*i.size,none⟩:=by rw [fm,bI]
 simp [Builtin.append_,aY n,sizeOf,typeInfo,hi,Builtin.lenOf,d,hf,h,f]
theorem qY {m} {sz} {xs a:List (List AV)} {l k:List Value} (hl:l.length=xs.length*sz)
  (hx:∀ (i:Nat) (x:List AV) (j:Nat) (c:AV),xs[i]?=some x->x[j]?=some c->∃ v,l[i*sz+j]?=some v/\RD m c v)
  (hy:∀ (i:Nat) (x:List AV) (j:Nat) (c:AV),a[i]?=some x->x[j]?=some c->∃ v,k[i*sz+j]?=some v/\RD m c v) :
  ∀ (i:Nat) (x:List AV) (j:Nat) (c:AV),(xs++a)[i]?=some x->x[j]?=some c->∃ v,(l++k)[i*sz+j]?=some v/\RD m c v:=by
 intro i x j c h1 h2;by_cases hi:i<xs.length
 ·grind
 ·rw [cF ar] at h1;obtain ⟨v,g1,g2⟩:=hy _ x j c h1 h2;refine ⟨v,?_,g2⟩
  have:i*sz+j=xs.length*sz+((i - xs.length)*sz+j):=by
   have:i*sz=xs.length*sz+(i - xs.length)*sz:=by rw [<- dk]; congr 1; omega
   omega
  grind
section
variable {Γ:ce} {c:dE} {bx:List (Nat×List AV)} {w:World}
theorem WI.drew (a:WI Γ c bx w):WI Γ c bx w.drew:=
 ⟨a.ext.drew,⟨a.sub.cell,a.sub.map⟩,a.le0,a.new.keep (fun _ h=>h),a.box,a.inj,fun k=>⟨(a.own k).blk,(a.own k).shape,(a.own k).box,(a.own k).apart⟩,fun k b o h=>⟨(a.xo k b o h).new,(a.xo k b o h).obj,(a.xo k b o h).kept,(a.xo k b o h).mem,(a.xo k b o h).map,(a.xo k b o h).box,(a.xo k b o h).own,(a.xo k b o h).inj⟩⟩
theorem jn (w:World) {T:eS} (i:T.OK Γ.P) {e} {j} (hj:get T e=some j) {zs} (hz:j.zero.cells?=some zs) (m:zs.length=j.size) :
  ∃ (q:TypeInfo) (z:Value),Γ.P.info? e=some q/\q.size=j.size/\q.bytes=j.bytes/\q.zero=some z/\z.cells.size=j.size/\mc c zs z.cells:=by
 obtain ⟨q,d,h1,h2,a⟩:=ei i hj;obtain ⟨z,g1,g2,_⟩:=yU i (w:=w) (c:=c) hj hz;simp only [TI.of,h1,h2,aB] at a;have h:=ax TI.size a;have f:=ax TI.bytes a;simp only at h f;simp only [zeroValue,typeInfo,aD,x7,aw,h1,aL] at g1
 cases b:q.zero with
 | none=>rw [b] at g1; cases g1
 | some l=>
  rw [b] at g1;simp only [aL,Zr,tq] at g1;subst g1;exact ⟨q,l,h1,h,f,b,by have:=g2.1; omega,g2⟩
theorem Ab {T:eS} (f:T.OK Γ.P) {t} {i j} {o o'} {sz sz'} {xs} {u v} {zs} (hi:get T t=some i) (d:i.kind=3) (hj:get T i.elem=some j)
  (hz:j.zero.cells?=some zs) (b:zs.length=j.size) (hx:fp c (.sl o sz xs) u) (hy:fp c (.sl o' sz' []) v) (ty):(Builtin.append_ #[t,t] ty #[u,v]).run Γ.P w = .ok u w:=by
 have hu:=d6 f hi d;obtain ⟨q,z,x,N,E,H,G,_⟩:=jn (c:=c) w f hj hz b;have hx':RD c.m (.sl .no sz xs) u:=hx.sl_no;have hy':RD c.m (.sl .no sz' []) v:=hy.sl_no;obtain ⟨base,len,cap,rfl,_,_⟩:=hx'.elem;obtain ⟨a,n,e,rfl,_,_⟩:=hy'.elem;obtain ⟨l,l1,l2,l3,y,r,M,L,D⟩:=hx'.flat;obtain ⟨k2,k1,p,k3,h,F,J,B,A⟩:=hy'.flat;subst y;simp only [AR] at h;subst h;cases a <;> cases base <;> simp [Builtin.append_,aY hu,sizeOf,typeInfo,x,Builtin.lenOf,Builtin.firstCells,loadCells,loadCellsFrom,r,storeCells]
theorem MN {T:eS} (hT:T.OK Γ.P) (J:WI Γ c bx w) {t k} {i j} {o o'} {sz sz'} {xs d} {u v} {zs} (hi:get T t=some i) (hk3:i.kind=3) (hj:get T i.elem=some j)
  (hz:j.zero.cells?=some zs) (hzl:zs.length=j.size) (M:0<j.size) (hx:fp c (.sl o sz xs) u) (hy:fp c (.sl o' sz' d) v) (X:j.size=sz\/xs=[]) (hsy:j.size=sz'\/d=[]) (hroom:gK (xs.length+d.length) j.bytes)
  (hmax:xs.length+d.length<=4611686018427387904) (ho:(o = .full/\MO xs d=true)\/(o = .id k/\(j.size=sz\/sz=0))) (ty) :
  ∃ r w' m',(Builtin.append_ #[t,t] ty #[u,v]).run Γ.P w = .ok r w'/\c.m.le m'/\WI Γ ((c.mem m').own k r j.size) (DN k bx) w'/\NC w w'/\fp ((c.mem m').own k r j.size) (.sl (.id k) j.size (xs++d)) r:=by
 have hu:=d6 hT hi hk3;obtain ⟨q,z,q1,q2,q3,q4,q5,_⟩:=jn (c:=c) w hT hj hz hzl;have hx':RD c.m (.sl .no sz xs) u:=hx.sl_no;have hy':RD c.m (.sl .no sz' d) v:=hy.sl_no;obtain ⟨base,len,cap,rfl,_,_⟩:=hx'.elem;obtain ⟨N,n,e,rfl,_,_⟩:=hy'.elem;obtain ⟨l,l1,l2,l3,l4,l5,l6,l7,l8⟩:=hx'.flat;obtain ⟨k2,k1,k2',k3,k4,k5,k6,k7,k8⟩:=hy'.flat;subst l4;subst k4
 -- sizes of all elements
 have hx6:∀ x∈xs,x.length=j.size:=by
  rcases X with h | h
  ·rw [h]; exact l6
  ·subst h; simp
 have hy6:∀ x∈d,x.length=j.size:=by
  rcases hsy with h | h
  ·rw [h]; exact k6
  ·subst h; simp
 have L:∀ x∈xs++d,x.length=j.size:=fun x hx=>by grind
 have Q:∀ x∈xs++d,∀ c∈x,AV.isCell c=true:=fun x hx=>by grind
 have U:l.length=xs.length*j.size:=by
  rcases X with h | h
  ·rw [h]; exact l1
  ·subst h; simpa using l1
 have H:k2.length=d.length*j.size:=by
  rcases hsy with h | h
  ·rw [h]; exact k1
  ·subst h; simpa using k1
 have hl2:∀ (i:Nat) (x:List AV) (p:Nat) (c':AV),xs[i]?=some x->x[p]?=some c'->∃ v,l[i*j.size+p]?=some v/\RD c.m c' v:=by
  rcases X with h | h
  ·rw [h]; exact l2
  ·subst h; simp
 have hk2:∀ (i:Nat) (x:List AV) (p:Nat) (c':AV),d[i]?=some x->x[p]?=some c'->∃ v,k2[i*j.size+p]?=some v/\RD c.m c' v:=by
  rcases hsy with h | h
  ·rw [h]; exact k2'
  ·subst h; simp
 by_cases hys:d=[]
 ·-- nothing comes
  subst hys
  have f:(Builtin.append_ #[t,t] ty #[.slice base xs.length cap,.slice N 0 e]).run Γ.P w = .ok (.slice base xs.length cap) w:=by
   cases N <;> cases base <;> simp [Builtin.append_,aY hu,sizeOf,typeInfo,q1,Builtin.lenOf,Builtin.firstCells,loadCells,loadCellsFrom,l5,storeCells]
  have F:nc (sfree Γ.w0 k) (.slice base xs.length cap:Value):=by
   rcases ho with ⟨rfl,hap⟩ | ⟨rfl,_⟩
   ·right;refine ⟨_,_,_,rfl,fun _=>?_,fun a _ hl=>?_⟩
    ·have hf:RD c.m (.sl .full sz xs) (.slice base xs.length cap):=hx;cases hf with | sl _ _ _ _ _ _ _ hf=>exact (hf rfl).symm
    ·rcases Qu hap with h | h
     ·rw [h] at hl; simp at hl
     ·exact absurd rfl h
   ·have:=(J.own k).shape;rw [<- hx.1] at this; exact this
  refine ⟨_,w,c.m,f,.refl _,?_,.refl w,?_⟩
  ·by_cases G:j5 (.slice base xs.length cap)=true
   ·-- it stays owned
    rcases ho with ⟨rfl,_⟩ | ⟨rfl,hos⟩
    ·have hf:RD c.m (.sl .full sz xs) (.slice base xs.length cap):=hx;cases hf with | sl _ _ _ _ _ _ _ hf=>simp [j5,hf rfl] at G
    ·obtain ⟨g1,g2⟩:=hx.2.1 G;have hszz:j.size=sz:=by rcases hos with h | h; exact h; omega
     simp only [j5,aP] at G;have hτ:c.τ k = .slice base xs.length cap:=hx.1.symm
     cases base with
     | none=>
      rcases (J.own k).shape with h | ⟨b,l',p,h,h',_⟩
      ·grind
      grind
     | some a0=>
      have B:dc c k=some a0.block:=by simp [dc,kW,hτ,G]
      obtain ⟨len',e,T',cells',r1,r2,r3,r4,r5⟩:=(J.own k).blk _ B;rw [hτ] at r1;simp only [VF,aB] at r1;obtain ⟨ra,rb,rc⟩:=r1;subst rb rc;obtain ⟨gb,hgb⟩:∃ gb,gb=a0.block:=⟨_,rfl⟩;rw [<- hgb] at ra r2 r4 B;subst ra;refine (J.reown (.refl _) J.sub _ (.inl B) (fun b o v h => .inl h) rfl rfl rfl rfl (ba _) (fun _ _ _=>rfl) (.refl w) F (fun g hg=>?_)).1;simp only [kW,G,c5,aB] at hg;grind
   ·exact J.own_none k j.size _ F (by simpa using G)
  ·refine ⟨by simp [dE.own],fun _=>⟨by simp [dE.own],M⟩,?_⟩;rw [bR];show RD c.m _ _;rcases X with h | h
   ·rw [h]; exact hx'
   ·subst h
    cases hx' with
    | sl _ _ _ _ _ _ ho' hf hl hc hsz hcell b off hb g hm hr=>exact .sl _ _ _ _ _ _ ho' hf hl hc cU cU b off hb g cU cU
 ·-- something comes
  have hn:0<d.length:=Lh.2 hys;obtain ⟨b',A,rfl,hkm⟩:=k8 hn;have D:∀ p v,k2[p]?=some v->w.cell? ((⟨b',A,none⟩:Addr).add p)=some v:=fun p v h=>by rw [fm]; exact J.sub.cell _ _ _ (hkm p v h)
  have h63:((xs.length+d.length:Nat):Int)<=9223372036854775807:=by omega
  have Z:(xs.length+d.length)*j.bytes<=140737488355328:=by unfold gK at hroom; omega
  by_cases E:xs.length+d.length<=cap
  ·-- in its place
   have hlt:xs.length<cap:=by omega
   rcases ho with ⟨rfl,_⟩ | ⟨rfl,hos⟩
   ·have hf:RD c.m (.sl .full sz xs) (.slice base xs.length cap):=hx;cases hf with | sl _ _ _ _ _ _ _ hf=>have:=hf rfl; omega
   ·obtain ⟨g1,g2⟩:=hx.2.1 (by simp [j5,hlt]);have hszz:j.size=sz:=by rcases hos with h | h; exact h; omega
    have hτ:c.τ k = .slice base xs.length cap:=hx.1.symm
    cases base with
    | none=>
     rcases (J.own k).shape with h | ⟨b,l',p,h,h',_⟩
     ·grind
     grind
    | some a0=>
     have B:dc c k=some a0.block:=by simp [dc,kW,hτ,hlt]
     obtain ⟨len',cap'',T',cells,r1,r2,r3,r4,r5⟩:=(J.own k).blk _ B;rw [hτ] at r1;simp only [VF,aB] at r1;obtain ⟨ra,rb,rc⟩:=r1;subst rb rc;obtain ⟨gb,hgb⟩:∃ gb,gb=a0.block:=⟨_,rfl⟩;rw [<- hgb] at ra r2;subst ra;have hσ:c.σ k=j.size:=by rw [g1,hszz]
     -- the block's own element type
     obtain ⟨W1,W2,W3⟩:=J.own_ext (k:=k) (g:=gb) hτ hlt k2 d.length (by rw [hσ]; exact H) E r2;rw [hσ] at W1 W2 W3;have f:=la hu q1 (w:=w) (T:=T') (cur:=cells) (g:=gb) (sLen:=xs.length) (sd:=cap) r2 ⟨b',A,none⟩ d.length e k2 (by rw [H,q2]) D k3 E (by rw [H,q2,r3,hσ,<- dk]; exact bg _ E) ty;rw [q2] at f;refine ⟨_,_,_,f,W2,W1,W3,by simp [dE.own],fun _=>⟨by simp [dE.own],M⟩,?_⟩;refine tx (l:=l++k2) (by intro k hk; cases hk) (by intro hk; cases hk) cU E L Q (fun i x p c' h1 h2=>?_) (fun p v hp hlt'=>?_)
     ·obtain ⟨v,h3,h4⟩:=qY (m:=c.m) U hl2 hk2 i x p c' h1 h2;exact ⟨v,h3,h4.mono W2⟩
     ·simp only [dE.own,dE.mem,dI.with,bI];grind
  ·-- elsewhere
   have hfits:=vL (need:=xs.length+d.length) (old:=cap) (bytes:=q.bytes) ar (by rw [q3]; exact Z);have hge:=Ls w (xs.length+d.length) cap i.elem;obtain ⟨cells,y⟩:∃ cells,cells=l.toArray++k2.toArray++Builtin.zeroCells z.cells (grownCap w (xs.length+d.length) cap i.elem - (xs.length+d.length)):=⟨_,rfl⟩
   have f:(Builtin.append_ #[t,t] ty #[.slice base xs.length cap,.slice (some ⟨b',A,none⟩) d.length e]).run Γ.P w =
     .ok (.slice (some ⟨w.heap.size,0,none⟩) (xs.length+d.length) (grownCap w (xs.length+d.length) cap i.elem)) (w.drew.alloc (.cells cells i.elem)):=by
    cases base with
    | none=>
     have hx0:xs.length=0:=by
      rcases ne xs.length with h | h
      ·exact h
      ·grind
     have hxn:xs=[]:=qm hx0
     have hcap0:cap=0:=by
      rcases ho with ⟨rfl,_⟩ | ⟨rfl,_⟩
      ·have hf:RD c.m (.sl .full sz xs) (.slice none xs.length cap):=hx;cases hf with | sl _ _ _ _ _ _ _ hf=>have:=hf rfl; omega
      ·have hτ:c.τ k = .slice none xs.length cap:=hx.1.symm;rcases (J.own k).shape with h | ⟨b,l',p,h,h',_⟩
       ·grind
       grind
     subst hxn;subst hcap0;have hl0:l=[]:=qm (by rw [U]; simp);subst hl0;simp only [AR,bI] at y Z ⊢;have:=Lr (P:=Γ.P) w t ty i.elem q z hu q1 q4 ⟨b',A,none⟩ d.length e k2 (by rw [H,q2]) D hn ar (by rw [q3]; omega);grind
    | some a0=>
     have holds:∀ p v,l[p]?=some v->w.cell? (a0.add p)=some v:=fun p v hp=>by
      have hl0:0<xs.length:=by
       rcases ne xs.length with h | h
       ·grind
       ·exact h
      obtain ⟨b1,o1,e1,e2⟩:=l8 hl0;cases e1;rw [fm]; exact J.sub.cell _ _ _ (e2 p v hp)
     rw [su (P:=Γ.P) w t ty i.elem q z hu q1 q4 a0 xs.length cap l (by rw [U,q2]) holds ⟨b',A,none⟩ d.length e k2 (by rw [H,q2]) D ar h63 hfits,y]
   have hsz:cells.size=grownCap w (xs.length+d.length) cap i.elem*j.size:=by
    rw [y];simp only [n7,iO,vI,q5,U,H];rw [<- dk,<- dk]
    congr 1
    omega
   obtain ⟨W1,W2,W3⟩:=J.drew.own_new k j.size (xs.length+d.length) (grownCap w (xs.length+d.length) cap i.elem) cells i.elem hsz hge;refine ⟨_,_,_,f,W2,W1,(NC.trans (show NC w w.drew from ⟨ba _,fun _ _ h _=>h,.drew _,fun _ h=>h⟩) W3),by simp [dE.own],fun _=>⟨by simp [dE.own],M⟩,?_⟩;refine tx (l:=l++k2) (by intro k hk; cases hk) (by intro hk; cases hk) cU hge L Q (fun i x p c' h1 h2=>?_) (fun p v hp hlt'=>?_)
   ·obtain ⟨v,h3,h4⟩:=qY (m:=c.m) U hl2 hk2 i x p c' h1 h2;exact ⟨v,h3,h4.mono W2⟩
   ·simp only [dE.own,dE.mem,dI.with,bI,nm,c5];grind
end
open Go
open Go.RowKit (Below)
theorem cc {c} {s} {a:Act} (b:∀ d x,get s.t d=some x->RC c x (a.tmps.getD d Go.undef)) (x):RC c (ev s x) (a.eval x):=by
 cases x with
 | tmp t=>
  simp only [ev,St.tmp,Act.eval]
  cases e:get s.t t with
  | none=>exact RD.junk _
  | some v=>exact b t v e
 | const v=>exact RC.of_RD (RD.cst _ _)
 | global g=>exact RD.junk _
 | func f=>exact RD.fn f
section
variable {Γ:ce} (hΓ:Γ.OK) {T:eS} (hT:T.OK Γ.P) {s:St} {K:St->Prop} {o:Oper} {a:Act} {w:World}
 {next:Act->World->Prop} {Q:Exit->Act->World->Prop}
def dO (Γ:ce) (a:Act) (dst:Option Nat) (w:World) (K:St->Prop) (next:Act->World->Prop):Prop:=∀ s' b w',K s'->d5 Γ s' b w'->NC w w'->(∃ v,b=a.put dst v)->next b w'
theorem gF {a:Act} {d} {v} {dst} (h:dst=some d):∃ u,a.put (some d) v=a.put dst u:=⟨v,by rw [h]⟩
theorem lB {a:Act} {dst} (h:dst=none):∃ u,a=a.put dst u:=⟨Go.undef,by rw [h]; rfl⟩
include hΓ hT in
theorem NX (l:d5 Γ s a w) (r:∀ d,o.dst=some d->d<Γ.nt)
  (h:gG T (aq Γ.P) s.b (ev s) o.type o.op fun v=>v.go fun v=>fx s o.dst v K) (q:dO Γ a o.dst w K next):o.wpIn Γ.F Γ.n Γ.P a w next Q:=by
 obtain ⟨c,z,p⟩:=l.ex;refine Cf hΓ hT h rfl z (fun x _=>cc p x) ?_;intro x v w' c' j hle f m hx;rw [AV.go_eq] at j;obtain ⟨t,b⟩:=s
 cases e:o.dst with
 | none=>
  rw [e] at j;exact q _ _ _ j (l.next m f (d:=none) (v:=v) (by intro k u; cases u) (fun k y hy=>(p k y hy).mono hle)) m (lB e)
 | some d=>
  rw [e] at j;have i:=r d e;exact q _ _ _ j (l.next m f (d:=some d) (v:=v) (by grind) (eA (fun k y hy=>(p k y hy).mono hle) (by rw [l.size]; exact i) hx)) m (gF e)
theorem SB (e:d5 Γ s a w) {d k sz} (f:d<Γ.nt) {c} (i:∀ k x,get s.t k=some x->RC c x (a.tmps.getD k Go.undef)) {w'} {m'} (hle:c.m.le m') {r} (l:NC w w')
  (h:WI Γ ((c.mem m').own k r sz) (DN k s.b) w') {x} (hx:RC ((c.mem m').own k r sz) x r):d5 Γ ⟨(d,x)::(s.dem k).t,(s.dem k).b⟩ (a.put (some d) r) w':=by
 refine e.next l (c:=(c.mem m').own k r sz) h (d:=some d) (v:=r) (by grind) (eA (fun j y hy=>?_) (by rw [e.size]; exact f) hx);rw [mB] at hy;obtain ⟨z,hz,rfl⟩:=aA.1 hy;exact (i j z hz).reown hle
include hΓ hT in
theorem HO {args} {U} (ho:o.op = .call { callee := .builtin .append,args:=args,argTypes:=U }) (X:d5 Γ s a w) (hd:∀ d,o.dst=some d->d<Γ.nt)
  (h:ng T (aq Γ.P) s o.dst o.type (.call { callee := .builtin .append,args:=args,argTypes:=U }) K) (hn:dO Γ a o.dst w K next):o.wpIn Γ.F Γ.n Γ.P a w next Q:=by
 obtain ⟨c,hW,M⟩:=X.ex;simp only [ng] at h;split at h
 ·rename_i x y t t' d hx D e;have m:=hd d e;split at h
  ·rename_i i hi;split at h
   ·rename_i j hj;split at h
    ·rename_i Z sz xs ow' sz' L hxs hys
     cases hb:(Nat.beq i.kind 3&&Nat.beq t t'&&nP j&&Nat.blt 0 j.size&&H5 Z j.size sz) with
     | false=>grind
     | true=>
      simp only [hb,aR] at h;simp only [al] at hb;obtain ⟨⟨⟨⟨b1,b2⟩,N⟩,b4⟩,b5⟩:=hb;have B:=aj b1;have htt:=aj b2;subst htt;obtain ⟨h,hsx⟩:=mA h;obtain ⟨h,hsy⟩:=mA h;obtain ⟨u,J,h⟩:=h;have H:0<j.size:=ah b4;unfold nP at N;split at N
      ·rename_i zs hz;have z:=aj N;have q:=cc M x;rw [hxs] at q;have A:=cc M y;rw [hys] at A;have p:=(ec (by intro cs G; cases G)).1 q;have f:=(ec (by intro cs G; cases G)).1 A;obtain ⟨args⟩:=args;obtain ⟨U⟩:=U;simp only at hx D;subst hx;subst D
       have l:∀ r w',(Builtin.append_ #[t,t] o.type #[a.eval x,a.eval y]).run Γ.P w = .ok r w'->(execOp a.eval o).run Γ.P w = .ok (.value r) w':=by
        intro r w' hr;simp only [execOp,ho,aD,d3,aw,invoke,builtin,ez,cp,eU,hr,aL]
       have fin:∀ k,((Z = .full/\MO xs L=true)\/(Z = .id k/\(j.size=sz\/sz=0)))->K ⟨(d,.sl (.id k) j.size (xs++L))::(s.dem k).t,(s.dem k).b⟩->o.wpIn Γ.F Γ.n Γ.P a w next Q:=by
        intro k hok hK;obtain ⟨r,w',m',r1,r2,r3,r4,r5⟩:=MN hT hW hi B hj hz z H p f hsx hsy u J hok o.type;refine cT hΓ (by grind) (l r w' r1) ?_;rw [e];exact hn _ _ _ hK (SB X m M r2 r4 r3 ((ec (by intro cs G; cases G)).2 r5)) r4 (gF e)
       cases Z with
       | full=>
        cases ha:MO xs L with
        | true=>grind
        | false=>
         simp only [ha,br] at h
         cases E:s7 L with
         | true=>grind
         | false=>
          rw [E,br] at h;have hKK:K ⟨(d,.sl .full sz xs)::s.t,s.b⟩:=h
          cases L with
          | cons y r=>cases E
          | nil=>
           have hr:=Ab (w:=w) hT hi B hj hz z p f o.type;refine cT hΓ (by grind) (l _ _ hr) ?_;rw [e];exact hn _ _ _ hKK (X.next (.refl w) hW (d:=some d) (v:=a.eval x) (by grind) (eA (fun k y hy=>M k y hy) (by rw [X.size]; exact m) q) ) (.refl w) (gF e)
       | id k=>
        refine fin k (.inr ⟨rfl,?_⟩) h;simp only [H5,cq] at b5;grind [Nat.eq_of_beq_eq_true]
       | no=>exact h.elim
      ·cases N
    ·exact h.elim
   ·exact h.elim
  ·exact h.elim
 ·exact h.elim
end
open Go
open Go.RowKit (Below)
section
variable {Γ:ce} (hΓ:Γ.OK) {T:eS} (hT:T.OK Γ.P) {s:St} {K:St->Prop} {o:Oper} {a:Act} {w:World}
 {next:Act->World->Prop} {Q:Exit->Act->World->Prop}
include hT in
theorem mH {t} {i} (g:get T t=some i) {cs} (hz:i.zero.cells?=some cs):∃ z,(zeroValue t).run Γ.P w = .ok z w/\cs.length=z.cells.size/\∀ (m:dI) (n:Nat) (x:AV) (u:Value),cs[n]?=some x->z.cells[n]?=some u->RD m x u:=by
 obtain ⟨j,d,h1,h2,b⟩:=ei hT g;simp only [TI.of,h1,h2,aB] at b;have hzero:=(ax TI.zero b).symm;simp only at hzero;clear b
 cases hj:j.zero with
 | none=>rw [hj] at hzero; simp only at hzero; rw [hzero] at hz; cases hz
 | some z=>
  rw [hj] at hzero;simp only at hzero;refine ⟨z,by simp only [zeroValue,typeInfo,aD,x7,aw,h1,aL,hj],?_⟩;rw [hzero] at hz
  have one:∀ z:Value,(cst z).cells?=some cs->cs.length=z.cells.size/\∀ (m:dI) (n:Nat) (x:AV) (u:Value),cs[n]?=some x->z.cells[n]?=some u->RD m x u:=by
   intro z hz
   have e:(cst z).isCell=true/\cs=[cst z]:=by
    unfold cst at hz ⊢;grind [AV.cells?,AV.isCell]
   obtain ⟨c,rfl⟩:=e;have h1:=RD.one (RD.cst ⟨fun _ _=>none,fun _=>none⟩ z) c;rw [h1.2];refine ⟨rfl,fun m n x u g1 g2=>?_⟩
   cases n with
   | zero=>grind [RD.cst]
   | succ n=>simp at g1
  cases z with
  | agg vs=>
   simp only [Qr,AV.cells?,aB] at hz;subst hz;refine ⟨by simp [Value.cells],fun m n x u g1 g2=>?_⟩;rw [aQ] at g1;obtain ⟨v,hv,rfl⟩:=aA.1 g1;have:vs[n]?=some v:=by simpa using hv
   grind [Value.cells,RD.cst]
  | _=>exact one _ hz
theorem yw (l news:List Value) (off n) (h:off+news.length<=l.length):(l.take off++news++l.drop (off+news.length)).toArray[n]?=if off<=n/\n<off+news.length then news[n - off]? else l[n]?:=by
 grind
theorem wj (d:Nat):∀ (cs:List AV) (vs:List Value) (f:Nat) (c:dE) (s:St),WI Γ c s.b w->(∀ k x,get s.t k=some x->RC c x (a.tmps.getD k Go.undef))->cs.length=vs.length ->
  (∀ (i:Nat) (x:AV) (v:Value),cs[i]?=some x->vs[i]?=some v->RD c.m x v) ->
  ∃ c',c'.m=c.m/\c'.ρ=c.ρ/\WI Γ c' (s.demMany (o2 d f cs)).b w/\(∀ k x,get (s.demMany (o2 d f cs)).t k=some x->RC c' x (a.tmps.getD k Go.undef))/\(fh d f cs).length=cs.length /\
   (∀ (i:Nat) (x:AV) (v:Value),(fh d f cs)[i]?=some x->vs[i]?=some v->fp c' x v)/\∀ k,(∀ j,f<=j->k≠nu d j)->c'.τ k=c.τ k/\c'.σ k=c.σ k
 | [],vs,f,c,s,B,q,_,_=>⟨c,rfl,rfl,B,q,rfl,by simp [fh],fun k _=>⟨rfl,rfl⟩⟩
 | x::r,vs,f,c,s,B,q,hl,E=>by
  cases vs with
  | nil=>cases hl
  | cons v vs=>
   have hx:=E 0 x v rfl rfl
   have other:o2 d f (x::r)=o2 d (f+1) r->fh d f (x::r)=x::fh d (f+1) r->∃ c',c'.m=c.m/\c'.ρ=c.ρ/\WI Γ c' (s.demMany (o2 d f (x::r))).b w /\
     (∀ k p,get (s.demMany (o2 d f (x::r))).t k=some p->RC c' p (a.tmps.getD k Go.undef))/\(fh d f (x::r)).length=(x::r).length /\
     (∀ (i:Nat) (p:AV) (G:Value),(fh d f (x::r))[i]?=some p->(v::vs)[i]?=some G->fp c' p G)/\∀ k,(∀ j,f<=j->k≠nu d j)->c'.τ k=c.τ k/\c'.σ k=c.σ k:=by
    intro L H;obtain ⟨c',g1,g2,g3,g4,g5,g6,g7⟩:=wj d r vs (f+1) c s B q (by simpa using hl) (fun i y u h1 h2=>E (i+1) y u h1 h2);rw [L,H];refine ⟨c',g1,g2,g3,g4,by simp [g5],fun i y u h1 h2=>?_,fun k A=>g7 k (fun j hj=>A j ar)⟩
    cases i with
    | zero=>grind [fp.of_RD]
    | succ i=>exact g6 i y u h1 h2
   cases x with
   | sl J sz xs=>
    cases J with
    | full=>
     cases sz with
     | zero=>
      cases xs with
      | nil=>
       have l:j5 v=false/\nc (sfree Γ.w0 (nu d f)) v:=by
        cases hx with
        | sl _ _ _ base len cap N hf F X=>
         have:=hf rfl;exact ⟨by simp [j5,this],.inr ⟨_,_,_,rfl,fun _=>this.symm,fun a _ M=>by simp at F; omega⟩⟩
       have D:=B.own_none (nu d f) 0 v l.2 l.1
       obtain ⟨c',g1,g2,g3,g4,g5,g6,g7⟩:=wj d r vs (f+1) ((c.mem c.m).own (nu d f) v 0) (s.dem (nu d f)) D (fun k y hy=>by
        rw [mB] at hy;obtain ⟨z,hz,rfl⟩:=aA.1 hy;exact (q k z hz).reown (.refl _)) (by simpa using hl) (fun i y u h1 h2=>E (i+1) y u h1 h2)
       refine ⟨c',g1,g2,g3,g4,by simp [fh,g5],fun i y u h1 h2=>?_,fun k A=>?_⟩
       ·cases i with
        | zero=>
         simp only [fh,bw,aB] at h1 h2;subst h1;subst h2;have:=g7 (nu d f) (fun j hj e=>by unfold nu at e; omega);refine ⟨by rw [this.1]; simp [dE.own],fun h=>(by rw [l.1] at h; cases h),?_⟩;rw [g1];exact hx.no
        | succ i=>exact g6 i y u h1 h2
       ·have h1:=g7 k (fun j hj=>A j ar);have h2:=A f (ba _);rw [h1.1,h1.2];simp [dE.own,dE.mem,h2]
      | cons y U=>exact other rfl rfl
     | succ n=>exact other rfl rfl
    | no=>exact other rfl rfl
    | id k=>exact other rfl rfl
   | _=>exact other rfl rfl
theorem qE {c} {t} (f:∀ k x,get t k=some x->RC c x (a.tmps.getD k Go.undef)) {d} (e:d<a.tmps.size) (b) :
  ∀ k y,get ((d,.loc d 0)::unloc d t) k=some y->RC (c.at d b) y ((a.put (some d) (.pointer (some ⟨b,0,none⟩))).tmps.getD k Go.undef):=by
 refine eA (c:=c.at d b) (fun k y hy=>?_) e ?_
 ·rw [P3] at hy;obtain ⟨z,hz,rfl⟩:=aA.1 hy;exact (f k z hz).unloc d b
 ·show _=_;simp [dE.at]
include hΓ hT in
theorem V9 {t} (G:o.op = .alloc t) (p:d5 Γ s a w) (A:∀ d,o.dst=some d->d<Γ.nt) (h:ng T (aq Γ.P) s o.dst o.type (.alloc t) K) (H:dO Γ a o.dst w K next):o.wpIn Γ.F Γ.n Γ.P a w next Q:=by
 obtain ⟨c,D,B⟩:=p.ex;simp only [ng] at h;split at h
 ·rename_i d i b hi;have f:=A d b;split at h
  ·rename_i cs q
   cases m:Nat.beq cs.length i.size&&cs.all (fun c=>c.isCell) with
   | false=>grind
   | true=>
    rw [m] at h;simp only [aR] at h;simp only [al,aN] at m;obtain ⟨z,E,z2,z3⟩:=mH hT (w:=w) hi q;obtain ⟨c',g1,g2,g3,g4,g5,g6,g7⟩:=wj (a:=a) d cs z.cells.toList 0 c s D B (by simpa using z2) (fun i x v h1 h2=>z3 _ i x v h1 (by simpa using h2))
    have e:∀ x∈fh d 0 cs,x.isCell=true:=by
     have:∀ (cs:List AV) (j:Nat),(∀ x∈cs,x.isCell=true)->∀ x∈fh d j cs,x.isCell=true:=by
      intro cs
      induction cs with
      | nil=>intro j _ x hx; simp [fh] at hx
      | cons y r J=>
       intro j l x hx;have ih':=J (j+1) (fun z hz=>l z (a6 _ hz));unfold fh at hx;split at hx
       ·rename_i heq; cases heq
       ·rename_i heq;cases heq;rcases bF.1 hx with rfl | hx
        ·rfl
        ·exact ih' x hx
       grind
     exact this cs 0 m.2
    have u:=g3.newBox d t (cs:=fh d 0 cs) (vs:=z.cells) (by rw [g5,z2]) e (fun i x v h1 h2=>g6 i x v h1 (by simpa using h2));refine cT hΓ (by grind) (v := .pointer (some ⟨w.heap.size,0,none⟩)) (w':=w.alloc (.cells z.cells t)) ?_ ?_
    ·simp only [execOp,G,Instr.alloc,aD,E,aw,newVar,newRow,vJ,aL,oL]
    ·rw [b];exact H _ _ _ h (p.next (lN _ (ed _ _)) u (d:=some d) (by grind) (qE g4 (by rw [p.size]; exact f) _)) (lN _ (ed _ _)) (gF b)
  ·exact h.elim
 ·exact h.elim
include hΓ hT in
theorem HP {t} {d} {i} {cs} (r:o.op = .alloc t) (l:d5 Γ s a w) (q:∀ d,o.dst=some d->d<Γ.nt) (e:o.dst=some d) (hi:get T t=some i) (m:i.zero.cells?=some cs) (f:∀ x∈cs,x.isCell=true) (K)
  (h:K ⟨(d,.loc d 0)::unloc d s.t,(d,cs)::s.b⟩) (y:dO Γ a (some d) w K next):o.wpIn Γ.F Γ.n Γ.P a w next Q:=by
 obtain ⟨c,A,u⟩:=l.ex;have j:=q d e;obtain ⟨z,B,z2,z3⟩:=mH hT (w:=w) hi m;have p:=A.newBox d t (cs:=cs) (vs:=z.cells) (by rw [z2]) f (fun i x v h1 h2 => .of_RD (z3 _ i x v h1 h2));refine cT hΓ (by grind) (v := .pointer (some ⟨w.heap.size,0,none⟩)) (w':=w.alloc (.cells z.cells t)) ?_ ?_
 ·simp only [execOp,r,Instr.alloc,aD,B,aw,newVar,newRow,vJ,aL,oL]
 ·rw [e];exact y _ _ _ h (l.next (lN _ (ed _ _)) p (d:=some d) (by grind) (qE u (by rw [l.size]; exact j) _)) (lN _ (ed _ _)) (gF rfl)
include hΓ hT in
theorem ZH {t} {x} (u:o.op = .box t x) (j:d5 Γ s a w) (q:∀ d,o.dst=some d->d<Γ.nt) (h:ng T (aq Γ.P) s o.dst o.type (.box t x) K) (y:dO Γ a o.dst w K next):o.wpIn Γ.F Γ.n Γ.P a w next Q:=by
 obtain ⟨c,r,p⟩:=j.ex;simp only [ng] at h;split at h
 ·rename_i d i cs b hi l;have e:=q d b
  cases f:Nat.beq cs.length i.size&&cs.all (fun c=>c.isCell) with
  | false=>grind
  | true=>
   rw [f] at h;simp only [aR] at h;simp only [al,aN] at f;obtain ⟨g1,g2⟩:=(cc p x).cells0 l;have m:=r.newBox d t g1 f.2 g2;refine cT hΓ (by grind) (v := .pointer (some ⟨w.heap.size,0,none⟩)) (w':=w.alloc (.cells (a.eval x).cells t)) ?_ ?_
   ·simp only [execOp,u,Instr.box,aD,newVar,newRow,vJ,aw,aL,oL]
   ·rw [b];exact y _ _ _ h (j.next (lN _ (ed _ _)) m (d:=some d) (by grind) (qE p (by rw [j.size]; exact e) _)) (lN _ (ed _ _)) (gF b)
 ·exact h.elim
include hΓ hT in
theorem NY {t} {x y} (ho:o.op = .store t x y) (N:d5 Γ s a w) (h:ng T (aq Γ.P) s o.dst o.type (.store t x y) K) (hn:dO Γ a o.dst w K next):o.wpIn Γ.F Γ.n Γ.P a w next Q:=by
 obtain ⟨c,J,B⟩:=N.ex;simp only [ng] at h;split at h
 ·rename_i i d off cs j hi hx H
  cases A:Nat.beq cs.length i.size&&cs.all (fun c=>c.isCell) with
  | false=>grind
  | true=>
   rw [A] at h;simp only [aR] at h;simp only [al,aN] at A;split at h
   ·rename_i b e;unfold CY at e;simp only [lm] at e;split at e
    ·cases e
    rename_i ds q
    cases f:Nat.ble (off+cs.length) ds.length&&Nat.blt 0 cs.length with
    | false=>grind
    | true=>
     rw [f] at e;simp only [aR,aB] at e;subst e;simp only [al] at f;have hle:=ah f.1;have L:1<=cs.length:=ah f.2;have p:ds≠[]:=by rintro rfl; rw [AR] at hle; omega
     obtain ⟨q1,q2,q3,vs,U,q4,q5,q6⟩:=J.box d ds q p;obtain ⟨g1,g2⟩:=(cc B y).cells0 H;have M:=cc B x;rw [hx] at M
     have u:∀ v∈(a.eval y).cells.toList,v.oneCell'=true:=by
      intro v hv;obtain ⟨n,r,E⟩:=cw hv;have m:n<cs.length:=by rw [g1]; simpa using r
      have h1:(a.eval y).cells[n]?=some v:=by
       rw [<- E,<- cL]; exact ai r
      exact ((g2 n _ v (ai m) h1).one (A.2 _ (bT m))).1
     have D:=oJ Γ.P (c.ρ d) off U (a.eval y).cells.toList 0 vs w q4 (by grind) u
     have l:mc c (setMany ds off cs) (vs.toList.take (off+0)++(a.eval y).cells.toList++vs.toList.drop (off+0+(a.eval y).cells.toList.length)).toArray:=by
      have h1:=mc.setMany (c:=c) (ds:=cs) (us:=(a.eval y).cells.toList) (cs:=ds) (vs:=vs) ⟨q5,q6⟩ (by simpa using g1) (fun i x v h1 h2=>g2 i x v h1 (by simpa using h2)) off;have h2:=wB (a.eval y).cells.toList off vs;refine ⟨by rw [h1.1,h2.1]; simp; omega,fun n x v e1 e2=>h1.2 n x v e1 ?_⟩;rw [h2.2,<- e2,yw _ _ _ _ (by grind),ee];by_cases c1:off<=n/\n<off+(a.eval y).cells.toList.length
      ·grind
      ·grind
     obtain ⟨W1,X⟩:=J.storeBox q p l.1 (fun z hz=>by grind [nr]) l.2;refine mG hΓ (by grind) (w':=w.setRow (c.ρ d) (vs.toList.take (off+0)++(a.eval y).cells.toList++vs.toList.drop (off+0+(a.eval y).cells.toList.length)).toArray) ?_ ?_
     ·have G:(a.eval y).cells.size=i.size:=by rw [<- g1]; exact aj A.1
      simp only [execOp,ho,M.loc,Instr.storeAt,Instr.sureAddr,aD,aL,aw,storeVar,eQ hT hi,G,AN,iN,cu,D]
     ·rw [j];exact hn _ _ _ h (N.next X W1 (d:=none) (v:=Go.undef) (by intro k Z; cases Z) B) X (lB j)
   ·exact h.elim
 ·exact h.elim
end
open Go
open Go.RowKit (Below)
section
variable {Γ:ce} (hΓ:Γ.OK) {T:eS} (hT:T.OK Γ.P) {s:St} {K:St->Prop} {o:Oper} {a:Act} {w:World}
 {next:Act->World->Prop} {Q:Exit->Act->World->Prop}
theorem P6 (s:St) (d) (cs) (k):get (s.frz d cs).t k=(get s.t k).map (AV.frz d cs):=by unfold St.frz; rw [o5]; exact lu (fun (_:Nat) (v:AV)=>v.frz d cs) s.t k
theorem pu:∀ (xs:List Operand) (s:St) (K:St->List AV->Prop) (c:dE),Bd xs s K->WI Γ c s.b w->(∀ k x,get s.t k=some x->RC c x (a.tmps.getD k Go.undef)) ->
  ∃ s' l c',K s' l/\c.m.le c'.m/\WI Γ c' s'.b w/\(∀ k x,get s'.t k=some x->RC c' x (a.tmps.getD k Go.undef))/\l.length=xs.length/\∀ (i:Nat) (x:AV) (p:Operand),l[i]?=some x->xs[i]?=some p->RD c'.m x (a.eval p)
 | [],s,K,c,h,f,e=>⟨s,[],c,h,.refl _,f,e,rfl,by simp⟩
 | p::r,s,K,c,h,f,e=>by
  have j:=cc e p
  have plain:∀ v,ev s p=v->(bif v.isCell then Bd r s (fun s l=>K s (v.pub1::l)) else False)->∃ s' l c',K s' l/\c.m.le c'.m/\WI Γ c' s'.b w/\(∀ k x,get s'.t k=some x->RC c' x (a.tmps.getD k Go.undef))/\l.length=(p::r).length /\
    ∀ (i:Nat) (x:AV) (q:Operand),l[i]?=some x->(p::r)[i]?=some q->RD c'.m x (a.eval q):=by
   intro v hv h
   cases D:v.isCell with
   | false=>grind
   | true=>
    rw [D] at h;obtain ⟨s',l,c',g1,g2,g3,g4,g5,g6⟩:=pu r s _ c h f e;refine ⟨s',_,c',g1,g2,g3,g4,by simp [g5],fun i x q h1 h2=>?_⟩
    cases i with
    | zero=>
     simp only [bw,aB] at h1 h2;subst h1;subst h2;rw [hv] at j;have:fp c v (a.eval p):=(ec (by rintro cs rfl; simp [AV.isCell] at D)).1 j;exact this.pub.mono g2
    | succ i=>exact g6 i x q h1 h2
  unfold Bd at h;split at h
  ·rename_i d n;split at h
   ·rename_i y B E;obtain ⟨m',m1,m2,m3⟩:=f.freeze E cU
    have u:∀ k x,get (s.frz d ((y::B).map AV.pub1)).t k=some x->RC (c.mem m') x (a.tmps.getD k Go.undef):=by
     intro k x A;rw [P6] at A;obtain ⟨z,hz,rfl⟩:=aA.1 A;exact (e k z hz).frz m1 m3
    obtain ⟨s',l,c',g1,g2,g3,g4,g5,g6⟩:=pu r (s.frz d ((y::B).map AV.pub1)) _ (c.mem m') h m2 u;refine ⟨s',_,c',g1,m1.trans g2,g3,g4,by simp [g5],fun i x q h1 h2=>?_⟩
    cases i with
    | zero=>
     simp only [bw,aB] at h1 h2;subst h1;subst h2;rw [n] at j;rw [show a.eval p=_ from j.loc];exact m3.mono g2
    | succ i=>exact g6 i x q h1 h2
   ·exact h.elim
  ·exact plain _ rfl h
include hΓ in
theorem yZ {f} {first captured} (H:o.op = .makeFunc (.func f) first captured) (p:d5 Γ s a w) (z:∀ d,o.dst=some d->d<Γ.nt)
  (h:ng T (aq Γ.P) s o.dst o.type (.makeFunc (.func f) first captured) K) (y:dO Γ a o.dst w K next):o.wpIn Γ.F Γ.n Γ.P a w next Q:=by
 obtain ⟨c,D,A⟩:=p.ex;simp only [ng] at h
 cases hf:first.toList.isEmpty with
 | false=>grind
 | true=>
  rw [hf] at h;simp only [aR] at h;obtain ⟨s',l,c',g1,g2,g3,g4,g5,g6⟩:=pu _ s _ c h D A
  have r:first=#[]:=by
   obtain ⟨G⟩:=first
   cases G with
   | nil=>rfl
   | cons _ _=>cases hf
  have u:RD c'.m (.clo f l) (.func (.func f) #[] (captured.map a.eval)):=by
   refine .clo _ _ _ (by simpa using g5) (fun i x v h1 h2=>?_);rw [NF] at h2;obtain ⟨q,E,rfl⟩:=aA.1 h2;exact g6 i x q h1 (by simpa using E)
  refine cT hΓ (by grind) (v := .func (.func f) #[] (captured.map a.eval)) (w':=w) (by grind [execOp,Instr.makeFunc,Sem.run_bind,Sem.run_pure,Result.andThen_ok]) ?_;obtain ⟨t,b⟩:=s'
  cases e:o.dst with
  | none=>
   rw [e] at g1;exact y _ _ _ g1 (p.next (.refl w) g3 (d:=none) (v:=Go.undef) (by intro k B; cases B) g4) (.refl w) (lB e)
  | some d=>
   rw [e] at g1;have j:=z d e;exact y _ _ _ g1 (p.next (.refl w) g3 (d:=some d) (by grind) (eA g4 (by rw [p.size]; exact j) (RC.of_RD u))) (.refl w) (gF e)
include hΓ in
theorem XG {x} (hx:x = .const (.slice none 0 0)) (p:o.op = .assign x\/o.op = .move x) (r:d5 Γ s a w) (u:∀ d,o.dst=some d->d<Γ.nt)
  (h:match o.dst,get T o.type with
   | some d,some i=>match get T i.elem with
    | some j=>bif Nat.beq i.kind 3 then match s.dem d with | ⟨t,b⟩=>K ⟨(d,.sl (.id d) j.size [])::t,b⟩ else False
    | none=>False
   | _,_=>False) (z:dO Γ a o.dst w K next):o.wpIn Γ.F Γ.n Γ.P a w next Q:=by
 obtain ⟨c,A,y⟩:=r.ex;split at h
 ·rename_i d i e hi;have l:=u d e;split at h
  ·rename_i j hj
   cases m:Nat.beq i.kind 3 with
   | false=>grind
   | true=>
    rw [m] at h;have q:=A.own_none d j.size (.slice none 0 0) (.inl rfl) rfl
    have f:(execOp a.eval o).run Γ.P w = .ok (.value (.slice none 0 0)) w:=by
     subst hx;rcases p with p | p <;> (simp only [execOp,p]; rfl)
    refine cT hΓ (by grind) f ?_;rw [e];refine z _ _ _ h (SB r l y (.refl _) (.refl w) q ((ec (by intro cs B; cases B)).2 ⟨by simp [dE.own],fun v=>(by cases v),?_⟩)) (.refl w) (gF e);exact .sl _ _ _ _ _ _ (by intro k m; cases m) (by intro m; cases m) rfl (ba _) cU cU 0 0 ar (fun _ _=>Go.undef) cU cU
  ·exact h.elim
 ·exact h.elim
theorem sB (zs) (n k) (hz:0<zs.size) (b:k<n):(madeCells zs n)[k]?=zs[k % zs.size]?:=by
 grind [Nat.mod_lt,madeCells]
include hΓ hT in
theorem xe {t} {p q} (ho:o.op = .makeSlice t p q) (hI:d5 Γ s a w) (hd:∀ d,o.dst=some d->d<Γ.nt)
  (h:ng T (aq Γ.P) s o.dst o.type (.makeSlice t p q) K) (hn:dO Γ a o.dst w K next):o.wpIn Γ.F Γ.n Γ.P a w next Q:=by
 obtain ⟨c,hW,G⟩:=hI.ex;simp only [ng] at h;split at h
 ·rename_i d i b hi;have A:=hd d b;split at h
  ·rename_i j hj;split at h
   ·rename_i k1 l k2 n hl Z;split at h
    ·rename_i u B
     cases J:Nat.beq i.kind 3&&Nat.beq u.length j.size&&u.all (fun c=>c.isCell)&&Nat.blt 0 j.size with
     | false=>grind
     | true=>
      rw [J] at h;simp only [aR] at h;simp only [al,aN] at J;obtain ⟨⟨⟨b1,b2⟩,b3⟩,b4⟩:=J;obtain ⟨h0,U,r,hmax,hK⟩:=h;have y:0<j.size:=ah b4;have hu:=d6 hT hi (aj b1);have M:=aj b2;obtain ⟨q',z,q1,q2,q3,q4,q5,_⟩:=jn (c:=c) w hT hj B M;obtain ⟨m,z1,z2,z3⟩:=mH hT (w:=w) hj B
      have X:m=z:=by
       simp only [zeroValue,typeInfo,aD,x7,aw,q1,aL,q4,Zr,tq] at z1;exact z1.symm
      subst X;have hp:=cc G p;rw [hl] at hp;have hq:=cc G q;rw [Z] at hq
      have e:(q'.bytes:Int)*n<=281474976710656:=by
       unfold gK at r;have:((n.toNat*j.bytes:Nat):Int)<=70368744177664:=by omega
       rw [q3,n5];rw [Int.natCast_mul,Int.toNat_of_nonneg ar] at this;omega
      have f:=run_make (P:=Γ.P) w t i.elem q' m hu q1 q4 k1 k2 l n h0 U e ar;rw [q2] at f;have N:(madeCells m.cells (n.toNat*j.size)).size=n.toNat*j.size:=by simp [madeCells]
      obtain ⟨W1,W2,W3⟩:=hW.own_new d j.size l.toNat n.toNat (madeCells m.cells (n.toNat*j.size)) i.elem N ar;refine cT hΓ (by grind) (v := .slice (some ⟨w.heap.size,0,none⟩) l.toNat n.toNat) (w':=w.alloc (.cells (madeCells m.cells (n.toNat*j.size)) i.elem)) ?_ ?_
      ·simp only [execOp,ho,hp.int,hq.int,aD,f,aw,aL]
      ·rw [b];refine hn _ _ _ hK (SB hI A G W2 W3 W1 ((ec (by intro cs Z; cases Z)).2 ⟨by simp [dE.own],fun _=>⟨by simp [dE.own],y⟩,?_⟩)) W3 (gF b)
       have D:∀ (i:Nat) (x:List AV),(List.replicate l.toNat u)[i]?=some x->i<l.toNat/\x=u:=by
        intro i x hx;rw [yn] at hx;split at hx
        ·grind
        ·cases hx
       refine tx (l:=(madeCells m.cells (n.toNat*j.size)).toList) (by intro k L; cases L) (by intro L; cases L) cU ar (fun x hx=>by grind) (fun x hx=>by grind)
        (fun i x p c' h1 h2=>?_) (fun p v hp' E=>?_)
       ·obtain ⟨hi',H⟩:=D i x h1;rw [H] at h2;have hpl:p<u.length:=(am.1 h2).1;have hpz:p<m.cells.size:=by omega
        have E:i*j.size+p<n.toNat*j.size:=by
         have:(i+1)*j.size<=n.toNat*j.size:=bg _ ar;rw [AE] at this; omega
        grind [Array.getElem?_eq_getElem,sB,Nat.mul_comm,Nat.mul_add_mod,Nat.mod_eq_of_lt]
       ·simp only [dE.own,dE.mem,dI.with,bI,c5];grind
    ·exact h.elim
   ·exact h.elim
  ·exact h.elim
 ·exact h.elim
include hΓ hT in
theorem eH {op} (b:o.op=op) (c:d5 Γ s a w) (f:∀ d,o.dst=some d->d<Γ.nt) (h:ng T (aq Γ.P) s o.dst o.type op K) (e:dO Γ a o.dst w K next):o.wpIn Γ.F Γ.n Γ.P a w next Q:=by
 unfold ng at h;split at h
 ·exact ZH hΓ hT b c f (by simpa only [ng] using h) e
 ·exact V9 hΓ hT b c f (by simpa only [ng] using h) e
 ·exact NY hΓ hT b c (by simpa only [ng] using h) e
 ·exact yZ (T:=T) hΓ b c f (by simpa only [ng] using h) e
 ·exact XG hΓ rfl (.inl b) c f h e
 ·exact XG hΓ rfl (.inr b) c f h e
 ·exact xe hΓ hT b c f (by simpa only [ng] using h) e
 ·exact HO hΓ hT b c f (by simpa only [ng] using h) e
 grind [NX]
end
open Go
open Go.RowKit (Below)
structure dE.leX (k:Nat) (c c':dE):Prop where
 m:c.m.le c'.m
 ρ:c'.ρ=c.ρ
 τ:c'.τ=c.τ
 σ:c'.σ=c.σ
 x:∀ j,j≠k->c'.x j=c.x j/\c'.xn j=c.xn j
theorem fp.leX_cell {k} {c c'} (h:c.leX k c') {x} {v} (r:fp c x v) (hx:x.isCell=true):fp c' x v:=by
 cases x with
 | me g j n xs=>simp [AV.isCell] at hx
 | loc d off=>simp [AV.isCell] at hx
 | sl o sz xs=>
  cases o with
  | id k=>obtain ⟨r1,b,a⟩:=r; exact ⟨by rw [h.τ]; exact r1,by rw [h.σ]; exact b,a.mono h.m⟩
  | no=>exact RD.mono h.m (show RD c.m _ v from r)
  | full=>exact RD.mono h.m (show RD c.m _ v from r)
 | _=>exact RD.mono h.m (show RD c.m _ v from r)
theorem RX.leX {k} {c c'} (h:c.leX k c') {g} {j n} {xs} {v} (r:RX c g j n xs v) (hj:j≠k):RX c' g j n xs v:=by
 obtain ⟨h1,h2⟩:=h.x j hj
 cases g with
 | sl=>grind [RX]
 | ptr sz q=>simp only [RX,h1] at r ⊢; exact r
 | arr=>
  obtain ⟨b,cells,T,r1,r0,f,a,d⟩:=r;exact ⟨b,cells,T,by rw [h1]; exact r1,by rw [h2]; exact r0,f,a,fun i r j y h1 h2=>let ⟨u,o,z⟩:=d i r j y h1 h2; ⟨u,o,z.mono h.m⟩⟩
 | row b cap=>
  obtain ⟨cells,T,r1,r0,f,a,d⟩:=r;exact ⟨cells,T,by rw [h1]; exact r1,by rw [h2]; exact r0,f,a,fun i r j y h1 h2=>let ⟨u,o,z⟩:=d i r j y h1 h2; ⟨u,o,z.mono h.m⟩⟩
 | mp=>simp only [RX,h1] at r ⊢; exact r
 | sub sz l=>grind [RX]
 | box=>
  obtain ⟨cells,T,own,r1,f,a,d,p⟩:=r;exact ⟨cells,T,own,by rw [h1]; exact r1,f,a,d,fun i y u h1 h2=>(p i y u h1 h2).mono h.τ h.σ h.m⟩
 | ents=>
  obtain ⟨es,clock,r1,f,a,d,p,A⟩:=r;exact ⟨es,clock,by rw [h1]; exact r1,f,a,d,fun i x e y h1 h2 t=>(p i x e y h1 h2 t).mono h.m,fun i x e y h1 h2 t=>(A i x e y h1 h2 t).mono h.m⟩
theorem RC.leX {k} {c c'} (h:c.leX k c') {x} {v} (r:RC c x v):RC c' (x.unme k) v:=by
 cases x with
 | me g j n xs=>
  simp only [AV.unme]
  cases e:Nat.beq k j with
  | true=>exact RD.junk v
  | false=>exact RX.leX h (show RX c g j n xs v from r) (Ne.symm (de e))
 | agg cs=>obtain ⟨vs,r1,f,b,l⟩:=r; exact ⟨vs,r1,f,b,fun i x u h1 h2=>(l i x u h1 h2).leX_cell h (b x (aC h1))⟩
 | loc d off=>show v=_; rw [show c'.ρ=c.ρ from h.ρ]; exact r
 | sl o sz xs=>exact (ec (by intro cs a; cases a)).2 (((ec (by intro cs a; cases a)).1 r).leX_cell h rfl)
 | _=>exact RD.mono h.m (show RD c.m _ v from r)
theorem dG (f) (t) (k):get (iX f t) k=(get t k).map f:=by rw [o5]; exact lu (fun (_:Nat) (v:AV)=>f v) t k
section
variable {Γ:ce} {c:dE} {bx:List (Nat×List AV)} {w:World}
theorem WI.freezeX (f:WI Γ c bx w) {k b:Nat} {cells:Array Value} {T:TypeId} (hx:c.x k=some (b,.cells cells T (0,0))) :
  let c':dE:={ c with m:=c.m.with fun a o=>if a=b then cells[o]? else c.m a o,x:=fun j=>if j=k then none else c.x j }
  WI Γ c' bx w/\c.leX k c':=by
 intro c';have p:=f.xo k b _ hx
 have hle:c.m.le c'.m:=⟨fun a o v hm=>by
  show (if _ then _ else _)=_;by_cases e:a=b
  ·rw [aX e];have:=f.sub.cell a o v hm;simpa [World.cell?,e,p.obj] using this
  grind,fun _ _ h=>h⟩
 have D:c.leX k c':=⟨hle,rfl,rfl,rfl,fun j hj=>⟨aV hj,rfl⟩⟩;refine ⟨⟨f.ext,⟨fun a o v hm=>?_,f.sub.map⟩,f.le0.trans hle,⟨fun a o v hm=>?_,f.new.map⟩,fun d cs h q=>?_,f.inj,fun j=>?_,fun j a o h=>?_⟩,D⟩
 ·simp only [c',dI.with] at hm;split at hm
  ·rename_i y; subst y; simpa [World.cell?,p.obj] using hm
  ·exact f.sub.cell a o v hm
 ·simp only [c',dI.with] at hm;split at hm
  ·rename_i y; exact .inr (by rw [y]; exact ⟨p.new,cells,T,p.obj⟩)
  ·exact f.new.cell a o v hm
 ·obtain ⟨g1,g2,g3,us,U,g4,g5,g6⟩:=f.box d cs h q;refine ⟨g1,fun o=>?_,g3,us,U,g4,g5,fun i x v t A=>(g6 i x v t A).leX_cell D (g3 x (aC t))⟩;show (if c.ρ d=b then _ else _)=_;rw [aV (p.box d cs h q)]; exact g2 o
 ·have u:=f.own j;refine ⟨fun g B=>?_,u.shape,u.box,u.apart⟩;obtain ⟨len,cap,U,l,t,A,F,H,G⟩:=u.blk g B;refine ⟨len,cap,U,l,t,A,F,fun o z=>?_,G⟩;show (if g=b then _ else _)=_;rw [aV (fun e=>by subst e; exact p.own j B)]; exact H o z
 ·simp only [c'] at h;split at h
  ·cases h
  ·rename_i hj;have n:=f.xo j a o h;refine ⟨n.new,n.obj,n.kept,fun i hi=>?_,n.map,n.box,n.own,fun E o' r=>?_⟩
   ·show (if a=b then _ else _)=_;rw [aV (fun e=>by subst e; exact hj (p.inj j _ h))]; exact n.mem i hi
   ·simp only [c'] at r;split at r
    ·cases r
    ·exact n.inj E o' r
theorem WI.newX (a:WI Γ c bx w) (k:Nat) (n:Nat×Nat) (o:Obj) (G:se o=true) (t:tS o) :
  let c':dE:={ c with x:=fun j=>if j=k then some (w.heap.size,o) else c.x j,xn:=fun j=>if j=k then n else c.xn j }
  WI Γ c' bx (w.alloc o)/\c.leX k c'/\NC w (w.alloc o):=by
 intro c';have z:c.leX k c':=⟨.refl _,rfl,rfl,rfl,fun j hj=>⟨aV hj,aV hj⟩⟩
 obtain ⟨g1,_,g3⟩:=a.grow (m':=c.m) (w':=w.alloc o) ((aaB _ w).alloc (ba _) _) (.alloc w t) (.refl _) ⟨fun b i v h=>by
  rw [lO _ _ _ (show (⟨b,i,none⟩:Addr).block<_ from a.lt_m h)]; exact a.sub.cell b i v h,fun b x h=>(gD _ _ _ (a.lt_map h)).trans (a.sub.map b x h)⟩ ⟨fun b i v h => .inl h,fun b x h => .inl h⟩
 have M:=a.ext.size;refine ⟨⟨g1.ext,g1.sub,g1.le0,g1.new,fun d cs h q=>?_,g1.inj,fun j=>⟨(g1.own j).blk,(g1.own j).shape,(g1.own j).box,(g1.own j).apart⟩,fun j b p h=>?_⟩,z,g3⟩
 ·obtain ⟨J,E,y,us,U,L,D,H⟩:=g1.box d cs h q;exact ⟨J,E,y,us,U,L,D,fun i x v A B=>(H i x v A B).leX_cell (c:=c) z (y x (aC A))⟩
 ·simp only [c'] at h;split at h
  ·rename_i hj;cases h;refine ⟨iJ M,fq _ _,G,fun i _=>?_,?_,fun d cs h q e=>?_,fun r u=>?_,fun r o' f=>?_⟩
   ·show c.m w.heap.size i=none
    cases hm:c.m w.heap.size i with
    | none=>rfl
    | some v=>have:=a.lt_m hm; omega
   ·show c.m.maps w.heap.size=none
    cases hm:c.m.maps w.heap.size with
    | none=>rfl
    | some v=>have:=a.lt_map hm; omega
   ·have:=a.lt_box h q;grind
   ·have:=a.lt_own (k:=r) (g:=w.heap.size) u;omega
   ·simp only [c'] at f;split at f
    ·rename_i e; rw [e,hj]
    ·have:=a.lt_x f; omega
  ·rename_i hj;have l:=g1.xo j b p h;have F:=a.lt_x h;refine ⟨l.new,l.obj,l.kept,l.mem,l.map,l.box,l.own,fun r o' f=>?_⟩;simp only [c'] at f;split at f
   ·cases f; omega
   ·exact l.inj r o' f
theorem WI.storeX (l:WI Γ c bx w) {k b:Nat} {cells:Array Value} {T:TypeId} (hx:c.x k=some (b,.cells cells T (0,0))) (a:Array Value) (B:∀ o v,c.m b o=some v->a[o]?=some v) :
  let c':dE:={ c with x:=fun j=>if j=k then some (b,.cells a T (0,0)) else c.x j }
  WI Γ c' bx (w.setRow b a)/\c.leX k c'/\NC w (w.setRow b a):=by
 intro c';have f:=l.xo k b _ hx;have N:=l.ext.size;have M:=f.new;have H:c.leX k c':=⟨.refl _,rfl,rfl,rfl,fun j hj=>⟨aV hj,rfl⟩⟩
 refine ⟨⟨l.ext.trans ⟨rfl,rfl,rfl,by simp,fun q D=>jk _ _ _ _ (j8 D M)⟩,⟨fun t o v hm=>?_,fun t x hm=>by
  have hm:=l.sub.map t x hm;have L:=f.obj;grind [setRow_other]⟩,l.le0,l.new.keep (fun _ h=>oW h _ _),fun d cs h p=>?_,l.inj,fun j=>?_,fun j t o h=>?_⟩,H,sc f.obj _⟩
 ·by_cases G:t=b
  ·subst G;simp only [World.cell?,x3 _ _ _ _ _ _ f.obj];simpa using B o v hm
  ·rw [VD _ _ _ _ G]; exact l.sub.cell t o v hm
 ·obtain ⟨g1,g2,g3,us,U,g4,g5,g6⟩:=l.box d cs h p;refine ⟨g1,g2,g3,us,U,?_,g5,fun i x v y E=>(g6 i x v y E).leX_cell H (g3 x (aC y))⟩;rw [jk _ _ _ _ (f.box d cs h p)]; exact g4
 ·have z:=l.own j;refine ⟨fun g F=>?_,z.shape,z.box,z.apart⟩;obtain ⟨len,cap,U,n,y,E,J⟩:=z.blk g F;refine ⟨len,cap,U,n,y,?_,J⟩;rw [jk _ _ _ _ (fun e=>by subst e; exact f.own j F)]; exact E
 ·simp only [c'] at h;split at h
  ·rename_i hj;subst hj;cases h;refine ⟨f.new,x3 _ _ _ _ _ _ f.obj,rfl,f.mem,f.map,f.box,f.own,fun A o' u=>?_⟩;simp only [c'] at u;split at u
   ·assumption
   ·exact f.inj A o' u
  ·rename_i hj;have r:=l.xo j t o h;have p:t≠b:=fun e=>by subst e; exact hj (f.inj j _ h)
   refine ⟨r.new,?_,r.kept,r.mem,r.map,r.box,r.own,fun A o' u=>?_⟩
   ·rw [jk _ _ _ _ p]; exact r.obj
   ·simp only [c'] at u;split at u
    ·grind
    ·exact r.inj A o' u
end
open Go
open Go.RowKit (Below)
section
variable {Γ:ce} (hΓ:Γ.OK) {T:eS} (hT:T.OK Γ.P) {s:St} {K:St->Prop} {o:Oper} {a:Act} {w:World}
 {next:Act->World->Prop} {Q:Exit->Act->World->Prop}
theorem sS {k sz} {xs} (h:iH s k=some (sz,xs)):lo k=0/\∃ g,OD g=true/\get s.t (xk k)=some (.me g k sz xs):=by
 unfold iH at h;split at h
 ·rename_i g k' c b f
  cases d:OD g with
  | false=>grind
  | true=>
   cases e:Nat.beq k' k with
   | false=>grind
   | true=>
    cases i:Nat.beq (lo k) 0 with
    | false=>grind
    | true=>grind [Nat.eq_of_beq_eq_true]
 ·cases h
theorem n8 {k sz} {xs} (h:iH s k=some (sz,xs)):lo k=0:=(sS h).1
theorem NB {c} {g} {k n} {xs} {v} (i:OD g=true) (h:RX c g k n xs v):RX c .arr k n xs v:=by
 cases g with
 | arr=>exact h
 | row b cap=>
  obtain ⟨cells,T,r1,⟨d,f,_,e⟩,j⟩:=h;exact ⟨b,cells,T,r1,⟨d,by rw [<- f]; exact e⟩,j⟩
 | _=>cases i
theorem AD {c} {k n b cap} {xs} {v} {p} (h:RX c .arr k n xs v) (d:c.x k=some (b,p)) (e:cap=(c.xn k).2) (hl:xs.length<=cap):RX c (.row b cap) k n xs v:=by
 obtain ⟨l,cells,T,r1,⟨f,i⟩,j⟩:=h;rw [d] at r1;simp only [aB,er] at r1;obtain ⟨rfl,rfl⟩:=r1;exact ⟨cells,T,d,⟨f,e,hl,by rw [e]; exact i⟩,j⟩
theorem Pq {k sz} {xs} {K} (h:rowK s k sz xs K):∃ v,(v = .me .arr k sz xs\/∃ b cap,y6 s k=some (b,cap)/\v = .me (.row b cap) k sz xs)/\K v:=by
 unfold rowK at h;grind
theorem LV {k sz b cap} {xs} (h:iH s k=some (sz,xs)) (c:y6 s k=some (b,cap)):get s.t (xk k)=some (.me (.row b cap) k sz xs):=by
 obtain ⟨_,g,_,he⟩:=sS h;grind [y6]
theorem XOK.none {c} {bx} {k b} {p} (h:XOK Γ c bx w k b p) (d:lo k=0) (i):c.m b i=none:=h.mem i ar
theorem XOK.ag {c} {bx} {k b} {p} (h:XOK Γ c bx w k b p) (d:lo k=0) {cells:Array Value} (i) (v) (hv:c.m b i=some v):cells[i]?=some v:=by
 rw [h.none d i] at hv; cases hv
theorem rj {c} {k sz} {xs} (f:∀ d x,get s.t d=some x->RC c x (a.tmps.getD d Go.undef)) (h:iH s k=some (sz,xs)) :
  ∃ b cells T,c.x k=some (b,.cells cells T (0,0))/\(xs.length=(c.xn k).1/\(c.xn k).2*sz<=cells.size)/\xs.length*sz<=cells.size/\(∀ r∈xs,r.length=sz/\∀ y∈r,y.isCell=true) /\
   ∀ (i:Nat) (r:List AV) (j:Nat) (y:AV),xs[i]?=some r->r[j]?=some y->∃ u,cells[i*sz+j]?=some u/\RD c.m y u:=by
 obtain ⟨_,g,e,he⟩:=sS h;exact NB (v:=a.tmps.getD (xk k) Go.undef) e (f _ _ he)
theorem gZ:∀ (l:List Operand) (s:St),kA s l K->d5 Γ s a w->∃ s',K s'/\d5 Γ s' a w
 | [],s,h,A=>⟨s,h,A⟩
 | x::r,s,h,A=>by
  unfold kA at h;split at h
  ·rename_i k n ys hx;split at h
   ·rename_i sz xs hc;rw [St.go_eq] at h;refine gZ r _ h ?_;obtain ⟨⟨c,Z,F⟩,h2,h3,h4⟩:=A;obtain ⟨b,cells,U,L,e2,e3,M,E⟩:=rj F hc;obtain ⟨g1,g2⟩:=Z.freezeX L;refine ⟨⟨_,g1,fun d y hy=>?_⟩,h2,h3,h4⟩;rw [dG] at hy;obtain ⟨z,hz,rfl⟩:=aA.1 hy;have t:=F d z hz;have p:=t.leX g2
    have key:∀ n,RX c .sl k n [] (a.tmps.getD d Go.undef)->RD (c.m.with fun q o=>if q=b then cells[o]? else c.m q o) (.sl .no sz xs) (a.tmps.getD d Go.undef):=fun n hz=>by
     obtain ⟨q,e,H,cap,J,f2,f3,f4⟩:=hz;rw [L] at J;cases J;rw [f2];have hm:c.m.le (c.m.with fun q o=>if q=b then cells[o]? else c.m q o):=g2.m;refine .sl _ _ _ _ _ _ (by intro k v; cases v) (by intro v; cases v) ar f4 (fun r t=>(M r t).1) (fun r t=>(M r t).2) b 0 (fun _=>rfl) (fun i j=>(cells[i*sz+j]?).getD Go.undef) (fun i r j y h1 h2=>?_) (fun i r j y h1 h2=>?_)
     ·obtain ⟨u,B,N⟩:=E i r j y h1 h2;show (if _ then _ else _)=_; rw [aX rfl,bI,B]; rfl
     ·obtain ⟨u,B,N⟩:=E i r j y h1 h2;rw [B]; exact N.mono hm
    cases z with
    | me g k' D X=>
     simp only [vF,AV.unme] at p ⊢
     cases G:Nat.beq k k' with
     | false=>rw [G] at p; exact p
     | true=>
      have v:=aj G;subst v
      cases g with
      | sl=>exact key D (by obtain ⟨q,e,H,cap,f⟩:=(show RX c .sl k D X _ from t); exact ⟨q,e,H,cap,f⟩)
      | _=>exact RD.junk _
    | _=>exact p
   ·exact h.elim
  ·exact gZ r s h A
include hΓ in
theorem od {c} (j:d5 Γ s a w) (r:∀ d,o.dst=some d->d<Γ.nt) (q:WI Γ c s.b w) (m:∀ d x,get s.t d=some x->RC c x (a.tmps.getD d Go.undef)) (l:∀ c,o.op≠.defer c)
  {x} {v} (hx:RC c x v) (f:(execOp a.eval o).run Γ.P w = .ok (.value v) w) (h:fx s o.dst x K) (p:dO Γ a o.dst w K next):o.wpIn Γ.F Γ.n Γ.P a w next Q:=by
 refine cT hΓ l f ?_;obtain ⟨t,b⟩:=s
 cases e:o.dst with
 | none=>
  rw [e] at h;exact p _ _ _ h (j.next (.refl w) q (d:=none) (v:=Go.undef) (by intro k u; cases u) m) (.refl w) (by rw [e]; exact ⟨Go.undef,rfl⟩)
 | some d=>
  rw [e] at h;have i:=r d e;exact p _ _ _ h (j.next (.refl w) q (d:=some d) (v:=v) (by grind) (eA m (by rw [j.size]; exact i) hx)) (.refl w) (gF e)
include hΓ hT in
theorem tJ {t} {x y} {k len} {q} {i} (m:o.op = .indexAddr t x y) (r:d5 Γ s a w) (u:∀ d,o.dst=some d->d<Γ.nt) (hx:∀ c,(∀ d x,get s.t d=some x->RC c x (a.tmps.getD d Go.undef))->RX c .sl k len [] (a.eval x)) (hy:ev s y = .int q i)
  (h:iR T s o.dst t k len i K) (A:dO Γ a o.dst w K next):o.wpIn Γ.F Γ.n Γ.P a w next Q:=by
 obtain ⟨c,D,l⟩:=r.ex;unfold iR at h;split at h
 ·exact h.elim
 rename_i B hi;split at h
 ·exact h.elim
 rename_i j hj;split at h
 ·exact h.elim
 rename_i sz xs L
 cases f:(Nat.beq B.kind 3&&Nat.beq j.size sz) with
 | false=>grind
 | true=>
  rw [f] at h;obtain ⟨z,h1,h⟩:=h;simp only [al] at f;have hu:=d6 hT hi (aj f.1);have p:=aj f.2;obtain ⟨b,cells,U,cap,E,G,H,J⟩:=hx c l;have e:=cc l y;rw [hy] at e;refine od hΓ r u D l (by grind) (x := .me (.ptr sz 0) k i.toNat []) (v := .pointer (some ⟨b,i.toNat*sz+0,none⟩)) ⟨b,cells,U,E,rfl⟩ ?_ h A;simp only [execOp,m,G,e.int,Instr.indexAt,asIntOf,aD,aL,aw,aY hu];rw [aX ⟨z,by omega⟩];simp only [aD,eQ hT hj,aw,aL,p,fm,bI,ee]
include hΓ hT in
theorem wV {t} {x y} {k len} {zs} {q} {i} (e:o.op = .indexAddr t x y) (j:d5 Γ s a w) (f:∀ d,o.dst=some d->d<Γ.nt) (hx:ev s x = .me .sl k len zs) (hy:ev s y = .int q i)
  (h:iR T s o.dst t k len i K) (m:dO Γ a o.dst w K next):o.wpIn Γ.F Γ.n Γ.P a w next Q:=
 tJ hΓ hT e j f (fun c l=>by have b:=cc l x; rw [hx] at b; exact b) hy h m
theorem Io {c} (e:∀ d x,get s.t d=some x->RC c x (a.tmps.getD d Go.undef)) {x} {v} (hx:ev s x = .lit v):a.eval x=v:=by
 have b:=cc e x;rw [hx] at b;generalize a.eval x=u at b;have b:RD c.m (.lit v) u:=b;cases b; rfl
include hΓ hT in
theorem tH {t} {x y} {k b len cap sz} {xs} {q} {i} (e:o.op = .indexAddr t x y) (l:d5 Γ s a w) (j:∀ d,o.dst=some d->d<Γ.nt) (hx:ev s x = .lit (.slice (some ⟨b,0,none⟩) len cap)) (p:get s.t (xk k)=some (.me (.row b cap) k sz xs)) (hl:xs.length=len) (hy:ev s y = .int q i)
  (h:iR T s o.dst t k len i K) (m:dO Γ a o.dst w K next):o.wpIn Γ.F Γ.n Γ.P a w next Q:=
 tJ hΓ hT e l j (fun c f=>by
  obtain ⟨cells,U,r,⟨z,u,v,_⟩,_⟩:=(show RX c (.row b cap) k sz xs (a.tmps.getD (xk k) Go.undef) from f _ _ p);exact ⟨b,cells,U,cap,r,Io f hx,⟨by omega,u⟩,by omega⟩) hy h m
include hΓ hT in
theorem wW {t:TypeId} {x:Operand} {f sz j k i:Nat} {A:List (List AV)} (r:o.op = .fieldAddr t x f) (D:d5 Γ s a w) (H:∀ d,o.dst=some d->d<Γ.nt) (hx:ev s x = .me (.ptr sz j) k i A)
  (h:oQ T s o.dst t f sz j k i K) (M:dO Γ a o.dst w K next):o.wpIn Γ.F Γ.n Γ.P a w next Q:=by
 obtain ⟨c,J,z⟩:=D.ex;unfold oQ at h;split at h
 ·exact h.elim
 rename_i N hi
 cases B:Nat.beq N.kind 1 with
 | false=>grind
 | true=>
  rw [B] at h;simp only [aR] at h;obtain ⟨L,hu,y⟩:=oV hT hi (aj B);split at h
  ·exact h.elim
  rename_i off ft p;rw [fj,y,aQ] at p;obtain ⟨fd,q,e⟩:=aA.1 p;simp only [er] at e;obtain ⟨rfl,rfl⟩:=e;have hfd':L[f]?=some fd:=by simpa using q
  split at h
  ·exact h.elim
  rename_i u hj
  cases l:Nat.beq u.size 0 with
  | true=>grind
  | false=>
   rw [l] at h;simp only [br] at h;have m:=cc z x;rw [hx] at m;obtain ⟨b,cells,U,G,E⟩:=(show RX c (.ptr sz j) k i A (a.eval x) from m);refine od hΓ D H J z (by grind) (x := .me (.ptr sz (j+fd.offset)) k i []) (v := .pointer (some ⟨b,i*sz+(j+fd.offset),none⟩)) ⟨b,cells,U,G,rfl⟩ ?_ h M;simp only [execOp,r,E,Instr.fieldAt,aD,aY hu,aw,hfd',Instr.sureAddr,aL,kq hT hj l rfl,dV]
include hΓ hT in
theorem Sc {t:TypeId} {x:Operand} {sz j k i:Nat} {B:List (List AV)} (N:o.op = .load t x) (hI:d5 Γ s a w) (hd:∀ d,o.dst=some d->d<Γ.nt) (hx:ev s x = .me (.ptr sz j) k i B)
  (h:NL T s o.dst t sz j k i K) (hn:dO Γ a o.dst w K next):o.wpIn Γ.F Γ.n Γ.P a w next Q:=by
 obtain ⟨c,X,A⟩:=hI.ex;unfold NL at h;split at h
 ·exact h.elim
 rename_i ti hi;split at h
 ·exact h.elim
 rename_i e xs hc
 cases D:Nat.beq e sz with
 | false=>grind
 | true=>
  rw [D] at h;have:=aj D;subst this;obtain ⟨r,q,h⟩:=h;split at h
  ·rename_i v hv;rw [AV.go_eq] at h;obtain ⟨b,cells,U,G,e2,e3,H,J⟩:=rj A hc;have Z:=X.xo k b _ G;have l:=cc A x;rw [hx] at l;obtain ⟨b',m,U',E,f2⟩:=(show RX c (.ptr e j) k i B (a.eval x) from l);rw [G] at E;cases E;have z:=(H r (aC q)).1;have f:(i+1)*e<=xs.length*e:=bg _ (am.1 q).1;rw [dk,ni] at f
   have hA:∀ (p:Nat) (y:AV) (v:Value),(r.drop j)[p]?=some y->((cells.toList.drop (i*e+j)).take (e - j))[p]?=some v->fp c y v:=fun p y v g1 g2=>by
    rw [da] at g1;rw [dL] at g2;split at g2
    ·rw [da] at g2;obtain ⟨u,q1,q2⟩:=J i r _ y q g1;have:cells[i*e+(j+p)]?=some v:=by rw [<- dV]; simpa using g2
     grind [fp.of_RD]
    ·cases g2
   have hB:∀ (p:Nat) (v:Value),((cells.toList.drop (i*e+j)).take (e - j))[p]?=some v->w.cell? ⟨b,i*e+j+p,none⟩=some v:=fun p v g=>by
    rw [dL] at g;split at g
    ·rw [da] at g;simp only [World.cell?,Z.obj];simpa using g
    ·cases g
   obtain ⟨u,L,M⟩:=jQ (c:=c) (w:=w) hT hi (b:=b) (off:=i*e+j) (cells:=r.drop j) (vals:=(cells.toList.drop (i*e+j)).take (e - j)) (by simp [z]; omega)
    (fun y hy=>(H r (aC q)).2 y (gh hy)) hA hB hv
   grind [od,execOp,Sem.run_bind,Instr.loadAt,Instr.sureAddr,Sem.run_pure,Result.andThen_ok]
  ·exact h.elim
end
open Go
open Go.RowKit (Below)
theorem fQ {α:Type}:∀ (l:List α) (n:Nat) (v:α),(dD l n v).length=l.length
 | [],_,_=>rfl
 | _::_,0,_=>rfl
 | _::r,n+1,v=>by simp [dD,fQ r n v]
theorem qB {α:Type}:∀ (ds l:List α) (off p:Nat),(setMany l off ds)[p]?=if off<=p/\p<off+ds.length/\p<l.length then ds[p - off]? else l[p]?
 | [],l,off,p=>by rw [aV (by simp; omega)]; rfl
 | d::ds,l,off,p=>by
  rw [setMany,qB ds,fQ,eh];grind
theorem qA {α:Type}:∀ (ds l:List α) (off:Nat),(setMany l off ds).length=l.length
 | [],_,_=>rfl
 | _::ds,l,off=>by rw [setMany,qA ds,fQ]
theorem jP {k:Nat} {g:Qw} (c:iD g=true):∀ {t:List (Nat×AV)},qa k t=true->∀ {d n:Nat} {xs:List (List AV)},get t d=some (.me g k n xs)->d=xk k
 | [],_,d,n,xs,h=>by simp [get] at h
 |(e,v)::r,b,d,n,xs,h=>by
  rw [a8] at h;split at h
  ·rename_i f;cases h;simp only [qa,Nat.beq_refl,jj,fu,c,gP,al] at b;rw [f]; exact aj b.1
  ·refine jP (t:=r) c ?_ h;unfold qa at b;grind
section
variable {Γ:ce} (hΓ:Γ.OK) {T:eS} (hT:T.OK Γ.P) {s:St} {K:St->Prop} {o:Oper} {a:Act} {w:World}
 {next:Act->World->Prop} {Q:Exit->Act->World->Prop}
include hΓ hT in
theorem Hs {t} {x y} {sz j k i} {zs} (hop:o.op = .store t x y) (hI:d5 Γ s a w) (hx:ev s x = .me (.ptr sz j) k i zs)
  (A:∀ g d n xs,iD g=true->get s.t d=some (.me g k n xs)->d=xk k) (h:yu T s o.dst t sz j k i (ev s y) K) (hn:dO Γ a o.dst w K next):o.wpIn Γ.F Γ.n Γ.P a w next Q:=by
 obtain ⟨c,hW,N⟩:=hI.ex;unfold yu at h;split at h
 ·rename_i ti cs E hi hcs;split at h
  ·exact h.elim
  rename_i f xs hc
  cases X:(Nat.beq f sz&&(Nat.beq cs.length ti.size&&(cs.all (fun c=>c.isCell)&&(Nat.ble (j+cs.length) sz&&Nat.blt 0 cs.length)))) with
  | false=>grind
  | true=>
   rw [X] at h;simp only [al,aN] at X;obtain ⟨b1,b2,b3,b4,b5⟩:=X;have:=aj b1;subst this;have hle:=ah b4;have hpos:1<=cs.length:=ah b5;obtain ⟨r,hr,h⟩:=h;obtain ⟨b,cells,U,L,e2,e3,e4,e5⟩:=rj N hc;have hq:=hW.xo k b _ L;have hrx:=cc N x;rw [hx] at hrx;obtain ⟨b',cells',U',f1,f2⟩:=(show RX c (.ptr f j) k i zs (a.eval x) from hrx);rw [L] at f1;cases f1;have hil:=(am.1 hr).1;have hrl:=(e4 r (aC hr)).1;have Z:(i+1)*f<=xs.length*f:=bg _ hil;rw [dk,ni] at Z;obtain ⟨g1,g2⟩:=(cc N y).cells0 hcs
   have hone:∀ v∈(a.eval y).cells.toList,v.oneCell'=true:=by
    intro v hv;obtain ⟨n,hn',hv'⟩:=cw hv;have D:n<cs.length:=by rw [g1]; simpa using hn'
    have h1:(a.eval y).cells[n]?=some v:=by
     rw [<- hv',<- cL]; exact ai hn'
    exact ((g2 n _ v (ai D) h1).one (b3 _ (bT D))).1
   have hnl:(a.eval y).cells.toList.length=cs.length:=by simp [g1]
   generalize J:(a.eval y).cells.toList=news at *;have hst:=oJ Γ.P b (i*f+j) U news 0 cells w hq.obj ar hone;simp only [ee] at hst;obtain ⟨W1,W2,W3⟩:=hW.storeX L (cells.toList.take (i*f+j)++news++cells.toList.drop (i*f+j+news.length)).toArray (hq.ag (n8 hc));have hrow:=fun n=>yw cells.toList news (i*f+j) n (by grind);refine mG hΓ (by grind) (w':=w.setRow b (cells.toList.take (i*f+j)++news++cells.toList.drop (i*f+j+news.length)).toArray) ?_ ?_
   ·have hsz:(a.eval y).cells.size=ti.size:=by rw [<- g1]; exact aj b2
    simp only [execOp,hop,f2,Instr.storeAt,Instr.sureAddr,aD,aL,aw,storeVar,eQ hT hi,hsz,AN,iN,cu,J,hst]
   ·rw [E];obtain ⟨vv,hvv,hK⟩:=Pq h;refine hn _ _ _ hK (hI.next W3 W1 (d:=none) (v:=Go.undef) (by intro k hk; cases hk) (fun d z hz=>?_)) W3 (lB E);rw [a8] at hz;split at hz
    ·rename_i hd;cases hz
     have B:=(show RX { c with x:=fun q=>if q=k then some (b,Obj.cells (cells.toList.take (i*f+j)++news++cells.toList.drop (i*f+j+news.length)).toArray U) else c.x q } .arr k f (dD xs i (tZ r j (cs.map AV.pub1))) (a.tmps.getD d Go.undef) from by
      refine ⟨b,_,U,aX rfl,⟨by rw [fQ]; exact e2.1,by
       grind⟩,?_,fun r' hr'=>?_,fun i' r' M z' h1 h2=>?_⟩
      ·grind [fQ,List.size_toArray,List.length_append,List.length_take,List.length_drop,Array.length_toList]
      ·obtain ⟨p,hp⟩:=cn hr';rw [eh] at hp;split at hp
       ·cases hp;rw [lm];refine ⟨by rw [qA]; exact hrl,fun z hz=>?_⟩;rcases nr _ _ _ _ hz with h | h
        ·obtain ⟨u,hu,rfl⟩:=bp.1 h;exact fK (b3 u hu)
        grind
       grind
      ·have hil':i'<xs.length:=by have:=(am.1 h1).1; rwa [fQ] at this
       rw [hrow];rw [eh] at h1;split at h1
       ·rename_i G;obtain ⟨rfl,_⟩:=G;cases h1;rw [lm,qB,az] at h2;split at h2
        ·rename_i hc2;rw [aX ⟨by omega,by omega⟩,show i*f+M - (i*f+j)=M - j by omega];rw [aQ] at h2;obtain ⟨z0,hz0,rfl⟩:=aA.1 h2;have D:M - j<news.length:=by omega
         refine ⟨news[M - j],ai D,?_⟩;refine (g2 _ z0 _ hz0 ?_).pub;grind
        grind
       ·rename_i G;have hne:i≠i':=fun e=>G ⟨e,hil'⟩;have hj':M<f:=by rw [<- (e4 r' (aC h1)).1]; exact (am.1 h2).1
        rw [aV ?_]
        ·grind
        ·intro hc2;rcases Nat.lt_or_gt_of_ne hne with g | g
         ·have:(i+1)*f<=i'*f:=bg _ g;grind
         ·have:(i'+1)*f<=i*f:=bg _ g;grind)
     rcases hvv with rfl | ⟨b0,cap0,hbc,rfl⟩
     ·exact B
     ·have h0:=LV hc hbc;obtain ⟨cells0,U0,q1,⟨q2,q3,q4,_⟩,_⟩:=(show RX c (.row b0 cap0) k f xs (a.tmps.getD (xk k) Go.undef) from N _ _ h0);rw [L] at q1;cases q1;exact AD B (aX rfl) q3 (by rw [fQ]; exact q4)
    ·have hz':=N d z hz
     -- heads and pointers under the same name stay
     cases z with
     | me g k' n' m=>
      by_cases hk:k'=k
      ·subst hk
       cases g with
       | sl=>
        obtain ⟨p1,p2,p3,p4,l⟩:=(show RX c .sl k' n' m _ from hz');exact ⟨p1,_,U,p4,by rw [show c.x k'=_ from L] at l; simp only [aB,er] at l; rw [<- l.1.1]; exact aX rfl,l.2⟩
       | ptr H j2=>
        obtain ⟨p1,p2,p3,l⟩:=(show RX c (.ptr H j2) k' n' m _ from hz');exact ⟨p1,_,U,by rw [show c.x k'=_ from L] at l; simp only [aB,er] at l; rw [<- l.1.1]; exact aX rfl,l.2⟩
       | arr=>exact absurd (A _ _ _ _ rfl hz) bf
       | row _ _=>exact absurd (A _ _ _ _ rfl hz) bf
       | box=>exact absurd (A _ _ _ _ rfl hz) bf
       | mp=>
        obtain ⟨p1,p2,p3,l,_⟩:=(show RX c .mp k' n' m _ from hz');grind
       | ents=>
        obtain ⟨p2,p3,l,_⟩:=(show RX c .ents k' n' m Go.undef from hz');grind
       | sub H l2=>
        obtain ⟨p1,p2,p3,p4,p6,l,p7⟩:=(show RX c (.sub H l2) k' n' m _ from hz');exact ⟨p1,_,U,p4,p6,by rw [show c.x k'=_ from L] at l; simp only [aB,er] at l; rw [<- l.1]; exact aX rfl,p7⟩
      ·have:=hz'.leX W2;simp only [AV.unme,show Nat.beq k k'=false from by cases X:Nat.beq k k' with | false=>rfl | true=>exact absurd (aj X).symm hk] at this;exact this
     | _=>exact hz'.leX W2
 ·exact h.elim
include hΓ hT in
theorem VN {t} {x y} {sz j k i} {zs} (b:o.op = .store t x y) (c:d5 Γ s a w) (hx:ev s x = .me (.ptr sz j) k i zs)
  (h:LA T s o.dst t sz j k i (ev s y) K) (e:dO Γ a o.dst w K next):o.wpIn Γ.F Γ.n Γ.P a w next Q:=by
 unfold LA at h
 cases d:qa k s.t with
 | false=>grind
 | true=>grind [Hs,jP]
end
open Go
open Go.RowKit (Below)
section
variable {Γ:ce} (hΓ:Γ.OK) {T:eS} (hT:T.OK Γ.P) {s:St} {K:St->Prop} {o:Oper} {a:Act} {w:World}
 {next:Act->World->Prop} {Q:Exit->Act->World->Prop}
include hT in
theorem Qm {c} {bx} (hW:WI Γ c bx w) {t} {i j} {o'} {sz sz'} {b} {u v} {zs} (hi:get T t=some i) (M:i.kind=3) (hj:get T i.elem=some j)
  (hz:j.zero.cells?=some zs) (H:zs.length=j.size) (hpos:0<j.size) (hx:fp c (.sl .full sz []) u) (hy:fp c (.sl o' sz' b) v) (X:j.size=sz'\/b=[]) (A:gK b.length j.bytes)
  (hmax:b.length<=4611686018427387904) (N:0<b.length) (ty) :
  ∃ cap cells,(Builtin.append_ #[t,t] ty #[u,v]).run Γ.P w = .ok (.slice (some ⟨w.heap.size,0,none⟩) b.length cap) (w.drew.alloc (.cells cells i.elem))/\b.length<=cap/\cap*j.size<=cells.size /\
   (∀ r∈b,r.length=j.size/\∀ y∈r,y.isCell=true)/\∀ (p:Nat) (r:List AV) (q:Nat) (y:AV),b[p]?=some r->r[q]?=some y->∃ u,cells[p*j.size+q]?=some u/\RD c.m y u:=by
 have hu:=d6 hT hi M;obtain ⟨q,z,Z,q2,q3,q4,q5,_⟩:=jn (c:=c) w hT hj hz H;have hy':RD c.m (.sl .no sz' b) v:=hy.sl_no;obtain ⟨L,n,f,rfl,_,_⟩:=hy'.elem;obtain ⟨k2,k1,k2',k3,k4,k5,k6,k7,k8⟩:=hy'.flat;subst k4
 have J:j.size=sz':=by
  rcases X with h | h
  ·exact h
  ·subst h; simp at N
 subst J;have hx':RD c.m (.sl .full sz []) u:=hx
 have U:∃ base,u = .slice base 0 0:=by
  generalize hav:u=av at hx'
  cases hx' with
  | sl _ _ _ base len cap ho hf hl hc=>
   grind
 obtain ⟨base,rfl⟩:=U;obtain ⟨E,d,rfl,G⟩:=k8 N;have l:∀ p v,k2[p]?=some v->w.cell? ((⟨E,d,none⟩:Addr).add p)=some v:=fun p v h=>by rw [fm]; exact hW.sub.cell _ _ _ (G p v h)
 have D:b.length*j.bytes<=140737488355328:=by unfold gK at A; omega
 have x:=vL (need:=b.length) (old:=0) (bytes:=q.bytes) ar (by rw [q3]; exact D);have F:=Ls w b.length 0 i.elem;obtain ⟨cells,e⟩:∃ cells,cells=k2.toArray++Builtin.zeroCells z.cells (grownCap w b.length 0 i.elem - b.length):=⟨_,rfl⟩
 have B:(Builtin.append_ #[t,t] ty #[.slice base 0 0,.slice (some ⟨E,d,none⟩) b.length f]).run Γ.P w = .ok (.slice (some ⟨w.heap.size,0,none⟩) b.length (grownCap w b.length 0 i.elem)) (w.drew.alloc (.cells cells i.elem)):=by
  cases base with
  | none=>
   have:=Lr (P:=Γ.P) w t ty i.elem q z hu Z q4 ⟨E,d,none⟩ b.length f k2 (by rw [k1,q2]) l N ar (by rw [q3]; omega);rw [this,e]
  | some a0=>
   have:=su (P:=Γ.P) w t ty i.elem q z hu Z q4 a0 0 0 [] cU cU ⟨E,d,none⟩ b.length f k2 (by rw [k1,q2]) l ar ar (by simpa using x);grind
 refine ⟨_,cells,B,F,?_,fun r hr=>⟨k6 r hr,k7 r hr⟩,fun p r q y h1 h2=>?_⟩
 ·rw [e]; simp only [n7,iO,vI,q5,k1]; rw [<- dk]; exact bg _ ar
 grind
include hΓ hT in
theorem NK {args} {B} {x y} {sz} (G:o.op = .call { callee := .builtin .append,args:=args,argTypes:=B }) (ha:args.toList=[x,y]) (M:d5 Γ s a w) (hd:∀ d,o.dst=some d->d<Γ.nt)
  (hx:ev s x = .sl .full sz []) (h:CQ T s o.dst B.toList (ev s y) K) (hn:dO Γ a o.dst w K next):o.wpIn Γ.F Γ.n Γ.P a w next Q:=by
 obtain ⟨c,hW,D⟩:=M.ex;unfold CQ at h;split at h
 ·rename_i d t t' b r;have q:=hd d b;split at h
  ·exact h.elim
  rename_i i hi;split at h
  ·exact h.elim
  rename_i j hj;split at h
  ·rename_i ow sz' ys L
   cases E:(Nat.beq i.kind 3&&(Nat.beq t t'&&(nP j&&Nat.blt 0 j.size))) with
   | false=>grind
   | true=>
    rw [E] at h;simp only [al] at E;obtain ⟨b1,b2,A,b4⟩:=E;have N:=aj b2;subst N;obtain ⟨⟨h0,f,m,h⟩,H⟩:=mA h;have l:0<j.size:=ah b4;unfold nP at A;split at A
    ·rename_i zs hz;have J:=aj A;have u:=cc D x;rw [hx] at u;have p:=cc D y;rw [L] at p;obtain ⟨cap,cells,r1,r2,Z,r4,r5⟩:=Qm (o':=ow) hT hW hi (aj b1) hj hz J l ((ec (by intro cs X; cases X)).1 u) ((ec (by intro cs X; cases X)).1 p) H f m h0 o.type;obtain ⟨args⟩:=args;obtain ⟨B⟩:=B;simp only at ha r;subst ha;subst r;obtain ⟨W1,W2,W3⟩:=hW.drew.newX d (ys.length,cap) (.cells cells i.elem (0,0)) rfl (ed _ _);refine cT hΓ (by grind) (v := .slice (some ⟨w.heap.size,0,none⟩) ys.length cap) (w':=w.drew.alloc (.cells cells i.elem)) ?_ ?_
     ·simp only [execOp,G,aD,d3,aw,invoke,builtin,ez,cp,eU,r1,aL]
     ·have hN:NC w (w.drew.alloc (.cells cells i.elem (0,0))):=NC.trans (show NC w w.drew from ⟨ba _,fun _ _ h _=>h,.drew _,fun _ h=>h⟩) W3;rw [b];refine hn _ _ _ h (M.next hN W1 (d:=some d) (by grind) (eA (fun e z hz=>?_) (by rw [M.size]; exact q) ?_)) hN (gF b)
      ·rw [a8] at hz;split at hz
       ·cases hz;exact ⟨_,cells,i.elem,aX rfl,⟨by simp,by simpa using Z⟩,bC (bg _ r2) Z,r4,r5⟩
       ·rw [dG] at hz;obtain ⟨z',U,rfl⟩:=aA.1 hz;exact (D e z' U).leX W2
      ·exact ⟨_,cells,i.elem,cap,aX rfl,by rw [nm],⟨by simp,by simp⟩,r2⟩
    ·cases A
  ·exact h.elim
 ·exact h.elim
include hΓ hT in
theorem Se {args} {e} {x} {t} {n} {i} (f:o.op = .call { callee := .builtin .len,args:=args,argTypes:=e }) (l:args.toList=[x]) (b:e.toList=[t]) (j:d5 Γ s a w)
  (m:∀ d,o.dst=some d->d<Γ.nt) (hx:∃ base cap,a.eval x = .slice base n cap) (hi:get T t=some i) (r:i.kind=3) (h:fx s o.dst (.int .i64 n) K) (q:dO Γ a o.dst w K next):o.wpIn Γ.F Γ.n Γ.P a w next Q:=by
 obtain ⟨c,u,p⟩:=j.ex;obtain ⟨base,cap,y⟩:=hx;obtain ⟨args⟩:=args;obtain ⟨e⟩:=e;simp only at l b;subst l;subst b;have hu:=d6 hT hi r;refine od hΓ j m u p (by grind) (x := .int .i64 n) (v := .int .i64 n) (ey _ _) ?_ h q;have:(Builtin.len_ #[t] o.type #[a.eval x]).run Γ.P w = .ok (.int .i64 n) w:=by rw [y]; simp [Builtin.len_,aY hu,goInt]
 simp only [execOp,f,aD,d3,aw,invoke,builtin,ez,cp,eU,this,aL]
include hΓ hT in
theorem Xv {args} {ts} {x} {t} {k n} {zs} {i} (f:o.op = .call { callee := .builtin .len,args:=args,argTypes:=ts }) (u:args.toList=[x]) (j:ts.toList=[t]) (l:d5 Γ s a w)
  (m:∀ d,o.dst=some d->d<Γ.nt) (hx:ev s x = .me .sl k n zs) (hi:get T t=some i) (r:i.kind=3) (h:fx s o.dst (.int .i64 n) K) (q:dO Γ a o.dst w K next):o.wpIn Γ.F Γ.n Γ.P a w next Q:=by
 obtain ⟨c,y,p⟩:=l.ex;have e:=cc p x;rw [hx] at e;obtain ⟨b,cells,U,cap,z,v,A,B⟩:=(show RX c .sl k n zs (a.eval x) from e);exact Se hΓ hT f u j l m ⟨_,_,v⟩ hi r h q
include hΓ hT in
theorem Sd {args} {ts} {x} {t} {n cap} {base} {i} (e:o.op = .call { callee := .builtin .len,args:=args,argTypes:=ts }) (m:args.toList=[x]) (b:ts.toList=[t]) (f:d5 Γ s a w)
  (j:∀ d,o.dst=some d->d<Γ.nt) (hx:ev s x = .lit (.slice base n cap)) (hi:get T t=some i) (l:i.kind=3) (h:fx s o.dst (.int .i64 n) K) (q:dO Γ a o.dst w K next):o.wpIn Γ.F Γ.n Γ.P a w next Q:=by
 obtain ⟨c,r,p⟩:=f.ex;exact Se hΓ hT e m b f j ⟨_,_,Io p hx⟩ hi l h q
end
open Go
open Go.RowKit (Below)
section
variable {Γ:ce} {c:dE} {bx:List (Nat×List AV)} {w:World}
theorem WI.putX (n:WI Γ c bx w) {k b:Nat} {es:Array MapEntry} {clock:Nat} (hx:c.x k=some (b,.map es clock)) (y:Obj) (G:se y=true) (J:tS y) :
  let c':dE:={ c with x:=fun j=>if j=k then some (b,y) else c.x j }
  WI Γ c' bx (w.putObj b y)/\c.leX k c'/\NC w (w.putObj b y):=by
 intro c';have l:=n.xo k b _ hx;have X:=n.ext.size;have Q:=l.new;have E:=n.lt_x hx;have N:c.leX k c':=⟨.refl _,rfl,rfl,rfl,fun j hj=>⟨aV hj,rfl⟩⟩;have u:∀ f,f≠b->(w.putObj b y).heap[f]?=w.heap[f]?:=fun f h=>c9 h;refine ⟨⟨n.ext.trans ⟨rfl,rfl,rfl,by simp [World.putObj],fun q H=>u q (j8 H Q)⟩,⟨fun f o v hm=>?_,fun f x hm=>?_⟩,n.le0,n.new.keep (fun _ h=>oX h l.obj (fun _ _ h=>nomatch h) _),fun d cs h a=>?_,n.inj,fun j=>?_,fun j f o h=>?_⟩,N,⟨by simp [World.putObj],fun f o F z=>?_,.putObj w b J,fun _ h=>oX h l.obj (fun _ _ h=>nomatch h) _⟩⟩
 ·have a:f≠b:=by
   rintro rfl;have:=n.sub.cell f o v hm;simp [World.cell?,l.obj] at this
  have h1:=n.sub.cell f o v hm;grind [World.cell?]
 ·have a:f≠b:=by
   rintro rfl;have:=l.map;rw [show c.m.maps f=some x from hm] at this; cases this
  rw [u f a]; exact n.sub.map f x hm
 ·obtain ⟨g1,g2,g3,us,U,g4,g5,g6⟩:=n.box d cs h a;refine ⟨g1,g2,g3,us,U,?_,g5,fun i x v A L=>(g6 i x v A L).leX_cell N (g3 x (aC A))⟩;rw [u _ (l.box d cs h a)]; exact g4
 ·have B:=n.own j;refine ⟨fun g M=>?_,B.shape,B.box,B.apart⟩;obtain ⟨len,cap,U,p,A,L,P⟩:=B.blk g M;refine ⟨len,cap,U,p,A,?_,P⟩;rw [u _ (fun e=>by subst e; exact l.own j M)]; exact L
 ·simp only [c'] at h;split at h
  ·rename_i hj;subst hj;cases h;refine ⟨l.new,oK E,G,l.mem,l.map,l.box,l.own,fun D o' t=>?_⟩;simp only [c'] at t;split at t
   ·assumption
   ·exact l.inj D o' t
  ·rename_i hj;have r:=n.xo j f o h;have a:f≠b:=fun e=>by subst e; exact hj (l.inj j _ h)
   refine ⟨r.new,?_,r.kept,r.mem,r.map,r.box,r.own,fun D o' t=>?_⟩
   ·rw [u _ a]; exact r.obj
   ·simp only [c'] at t;split at t
    ·grind
    ·exact r.inj D o' t
 ·have a:f≠b:=by
   rintro rfl;rw [l.obj] at F;cases F;rw [l.kept] at z; cases z
  rw [u _ a]; exact F
theorem WI.freezeMap (a:WI Γ c bx w) {k b:Nat} {es:Array MapEntry} {clock:Nat} (hx:c.x k=some (b,.map es clock)) :
  let c':dE:={ c with m:=⟨c.m.cells,fun f=>if f=b then some (es,clock) else c.m.maps f⟩,x:=fun j=>if j=k then none else c.x j }
  WI Γ c' bx w/\c.leX k c':=by
 intro c';have p:=a.xo k b _ hx
 have hle:c.m.le c'.m:=⟨fun _ _ _ h=>h,fun f x hm=>by
  show (if _ then _ else _)=_;rw [aV (fun e=>by subst e; rw [p.map] at hm; cases hm)]; exact hm⟩
 have t:c.leX k c':=⟨hle,rfl,rfl,rfl,fun j hj=>⟨aV hj,rfl⟩⟩;refine ⟨⟨a.ext,⟨a.sub.cell,fun f x hm=>?_⟩,a.le0.trans hle,⟨a.new.cell,fun f x hm=>?_⟩,fun d cs h q=>?_,a.inj,fun j=>⟨(a.own j).blk,(a.own j).shape,(a.own j).box,(a.own j).apart⟩,fun j f o h=>?_⟩,t⟩
 ·simp only [c'] at hm;split at hm
  ·rename_i r; subst r; cases hm; exact p.obj
  ·exact a.sub.map f x hm
 ·simp only [c'] at hm;split at hm
  ·rename_i r; exact .inr (by rw [r]; exact p.new)
  ·exact a.new.map f x hm
 ·obtain ⟨g1,g2,g3,us,U,g4,g5,g6⟩:=a.box d cs h q;exact ⟨g1,g2,g3,us,U,g4,g5,fun i x v u z=>(g6 i x v u z).leX_cell t (g3 x (aC u))⟩
 ·simp only [c'] at h;split at h
  ·cases h
  ·rename_i hj;have l:=a.xo j f o h;refine ⟨l.new,l.obj,l.kept,l.mem,?_,l.box,l.own,fun y o' n=>?_⟩
   ·show (if _ then _ else _)=_;rw [aV (fun e=>by subst e; exact hj (p.inj j o h))]; exact l.map
   ·simp only [c'] at n;split at n
    ·cases n
    ·exact l.inj y o' n
theorem RX.mapv {k n} {rows} {u} (h2:RX c .ents k n rows u) {m'} (hle:c.m.le m') (hm:∀ es clock,c.x k=some (n,.map es clock)->m'.maps n=some (es,clock)):RD m' (.mapv rows) (.map (some n)):=by
 obtain ⟨es,clock,b,d,h,f,a,j⟩:=h2;exact .mapv rows n es clock (hm es clock b) d h f (fun i x e y g1 g2 g3=>(a i x e y g1 g2 g3).mono hle) (fun i x e y g1 g2 g3=>(j i x e y g1 g2 g3).mono hle)
theorem WI.newMap (a:WI Γ c bx w) (k:Nat) :
  let c':dE:={ c with x:=fun j=>if j=k then some (w.heap.size,.map #[] 0) else c.x j,xn:=fun j=>if j=k then (0,0) else c.xn j }
  WI Γ c' bx (w.alloc (.map #[] 0))/\c.leX k c'/\NC w (w.alloc (.map #[] 0))/\∀ u,RX c' .ents k w.heap.size [] u:=by
 intro c';obtain ⟨h1,h2,b⟩:=a.newX k (0,0) (.map #[] 0) rfl (fun _ _ _ h=>nomatch h);refine ⟨h1,h2,b,fun u=>⟨#[],0,aX rfl,⟨by simp,by simp,by simp⟩,rfl,by simp,by simp,by simp⟩⟩
end
open Go
open Go.RowKit (Below)
theorem v8 {l} {i:Nat} {x} (h:(j6 l)[i]?=some x):∃ p,l[i]?=some p/\x=[keyA p.1,p.2]:=by
 grind [j6,Option.map_eq_some_iff]
theorem RD.int_eq {m:dI} {k:IntKind} {n:Int}:∀ {v:Value},RD m (.int k n) v->v = .int k n
 | _,.int _ _=>rfl
theorem RD.keyA {m} {k} {v} (h:RD m (Go.AI.keyA k) v):v=d9 k:=by
 unfold Go.AI.keyA at h
 cases h with
 | agg _ vs hl c b=>
  unfold d9
  congr 1
  apply pW;apply vR;intro i;simp only [az] at hl;simp only [aQ];by_cases hi:i<k.length
  ·have h1:(k.map (AV.int .i64))[i]?=some (.int .i64 k[i]):=by simp [hi]
   have hv:vs[i]?=some (vs[i]'(by omega)):=aE _;grind [int_eq,List.getElem?_eq_getElem]
  ·rw [cL,jZ ar,fR ar]; rfl
theorem we {sk} {l} {i:Nat} {x} (h:(f8 sk l)[i]?=some x):∃ p,l[i]?=some p/\x=[keyE sk p.1,p.2]:=by
 cases sk with
 | true=>exact v8 h
 | false=>
  simp only [f8,br,HT,aQ,aA] at h;obtain ⟨p,h1,h2⟩:=h;exact ⟨p,h1,h2.symm⟩
theorem wd (sk) (l):(f8 sk l).length=l.length:=by cases sk <;> simp [f8,j6,HT]
theorem HU {sk} {l} {i:Nat} {p} (h:l[i]?=some p):(f8 sk l)[i]?=some [keyE sk p.1,p.2]:=by cases sk <;> simp [f8,j6,HT,keyE,h]
theorem RD.keyE {m} {sk} {n} (c:sk=false->n=1) {k} (b:k.length=n) {v} (h:RD m (Go.AI.keyE sk k) v):v=sf sk k:=by
 cases sk with
 | true=>exact RD.keyA h
 | false=>
  obtain ⟨x,rfl⟩:=ml (x:=k) (by rw [b,c rfl]);exact RD.int_eq h
theorem ND (m) {sk} {n} (e:sk=false->n=1) {k} (d:k.length=n):RD m (Go.AI.keyE sk k) (sf sk k):=by
 cases sk with
 | false=>
  obtain ⟨x,rfl⟩:=ml (x:=k) (by rw [d,e rfl]);exact RD.int _ _
 | true=>
  refine .agg _ _ cU (fun x hx=>?_) (fun i x u h1 h2=>?_)
  ·obtain ⟨n,_,rfl⟩:=bp.1 hx; rfl
  ·simp only [aQ,aA,eN] at h1 h2;obtain ⟨n,c,rfl⟩:=h1;obtain ⟨f,b,rfl⟩:=h2;rw [c] at b; cases b;exact .int _ _
theorem RC.keyE_RD {c} {sk} {n} (e:sk=false->n=1) {k} (l:k.length=n) {v} (h:RC c (Go.AI.keyE sk k) v):RD c.m (Go.AI.keyE sk k) v:=by
 cases sk with
 | false=>
  obtain ⟨x,rfl⟩:=ml (x:=k) (by rw [l,e rfl]);exact h
 | true=>
  obtain ⟨vs,r1,f,b,j⟩:=(show RC c (.agg (k.map (AV.int .i64))) v from h);rw [r1];refine .agg _ vs f b fun i x u h1 h2=>?_;have d:=j i x u h1 h2;simp only [aQ,aA] at h1;obtain ⟨n,_,rfl⟩:=h1;exact d
theorem Vr {c} {k b} {sk} {n} (y:sk=false->n=1) {l} (f:∀ p∈l,p.1.length=n) {u} (h:RX c .ents k b (f8 sk l) u) :
  ∃ es clock,c.x k=some (b,.map es clock)/\li es clock/\l.length=es.size/\∀ (j:Nat) (e:MapEntry),es[j]?=some e->∃ p,l[j]?=some p/\e.key=sf sk p.1/\RD c.m p.2 e.val:=by
 obtain ⟨es,clock,z,r,q,A,v,t⟩:=h;have d:l.length=es.size:=by rw [wd] at q; exact q
 refine ⟨es,clock,z,r,d,fun j e he=>?_⟩;have hj:j<l.length:=by rw [d]; exact (aO.1 he).1
 have i:(f8 sk l)[j]?=some [Go.AI.keyE sk l[j].1,l[j].2]:=HU (ai hj);exact ⟨l[j],ai hj,(v j _ e _ i he rfl).keyE y (f _ (bT hj)),t j _ e _ i he rfl⟩
theorem BO {k:List Int} {v:AV}:∀ {l:List (List Int×AV)},(∀ p∈l,p.1≠k)->jM k v l=l++[(k,v)]
 | [],_=>rfl
 |(k',c)::r,h=>by
  rw [jM,aV (h (k',c) a7),BO fun p b=>h p (a6 _ b)]; rfl
theorem HA {k:List Int} {v:AV}:∀ {l:List (List Int×AV)} {p:List Int×AV},p∈jM k v l->p=(k,v)\/p∈l
 | [],p,h => .inl (by simpa [jM] using h)
 |(k',b)::r,p,h=>by
  simp only [jM] at h;split at h
  ·rcases bF.1 h with h | h
   ·exact .inl h
   ·exact .inr (a6 _ h)
  ·rcases bF.1 h with h | h
   ·exact .inr (h ▸ a7)
   ·exact (HA h).imp id (a6 _)
theorem BN {k:List Int} {v:AV}:∀ {l:List (List Int×AV)} {j:Nat} {p:List Int×AV},l[j]?=some p->p.1=k->(∀ (i c:Nat) (q d:List Int×AV),l[i]?=some q->l[c]?=some d->q.1=d.1->i=c)->jM k v l=l.set j (k,v)
 | [],j,p,h,_,_=>by simp at h
 |(k',m)::r,0,p,h,b,_=>by
  simp only [bw,aB] at h;subst h;rw [jM,aX b]; rfl
 |(k',m)::r,j+1,p,h,b,hu=>by
  simp only [fg] at h
  have f:k'≠k:=fun e=>by
   have:=hu 0 (j+1) (k',m) p rfl h (by rw [e,b]);omega
  rw [jM,aV f,BN h b fun i c q d h1 h2 e=>by
   have:=hu (i+1) (c+1) q d (by simpa using h1) (by simpa using h2) e;omega]
  rfl
section
variable {Γ:ce} (hΓ:Γ.OK) {T:eS} (hT:T.OK Γ.P) {s:St} {o:Oper} {a:Act} {w:World}
 {next:Act->World->Prop} {Q:Exit->Act->World->Prop}
include hΓ in
theorem Pi {K} {t} {d} (j:o.op = .makeMap t none) (l:d5 Γ s a w) (q:∀ d,o.dst=some d->d<Γ.nt) (f:o.dst=some d)
  (h:∀ b,K ⟨(d,.lit (.map (some b)))::(xk d,.me .ents d b [])::iX (AV.unme d) s.t,s.b⟩) (y:dO Γ a o.dst w K next):o.wpIn Γ.F Γ.n Γ.P a w next Q:=by
 obtain ⟨c,D,u⟩:=l.ex;have i:=q d f;obtain ⟨G,A,p,r⟩:=D.newMap d;refine cT hΓ (by rw [j]; intro c E; cases E) (v := .map (some w.heap.size)) (w':=w.alloc (.map #[] 0)) ?_ ?_
 ·simp only [execOp,j,Instr.makeMap,aD,AP,vJ,aw,aL];rfl
 ·rw [f];refine y _ _ _ (h w.heap.size) (l.next p G (d:=some d) (by intro k B; cases B; exact i) (eA (fun e z hz=>?_) (by rw [l.size]; exact i) (RD.lit _ rfl rfl))) p (gF f);rw [a8] at hz;split at hz
  ·cases hz; exact r Go.undef
  ·rw [dG] at hz;obtain ⟨x,m,rfl⟩:=aA.1 hz;exact (u e x m).leX A
include hT in
theorem CX {t} {i} {kt z} (h:get T t=some i) (c:i.kind=9) (hf:i.flds=[(z,kt)]):Γ.P.underlying t=some (.map kt i.elem):=by
 obtain ⟨q,d,h1,h2,b⟩:=ei hT h;simp only [TI.of,h1,h2,aB] at b;subst b;cases d <;> simp at c;rename_i k e;simp only [gy,er] at hf;rw [h2,hf.1.2]
include hΓ hT in
theorem np {K} {t} {x y z} {b} (J:o.op = .mapUpdate t x y z\/o.op = .insert t x y z) (hI:d5 Γ s a w) (hx:ev s x = .lit (.map (some b)))
  (h:yK T s o.dst t b (ev s y) (ev s z) K) (hn:∀ k v,K k v->(∀ d n xs,get s.t d=some (.me .ents k n xs)->d=xk k)->dO Γ a o.dst w (fun s'=>s'=⟨(xk k,v)::s.t,s.b⟩) next)
  (harr:∀ k v,K k v->∀ d n xs,get s.t d=some (.me .ents k n xs)->d=xk k):o.wpIn Γ.F Γ.n Γ.P a w next Q:=by
 obtain ⟨c,hW,ht⟩:=hI.ex;unfold yK at h;split at h
 ·rename_i im hdst him;split at h
  ·rename_i kz kt hfl;split at h
   ·rename_i i hi
    cases hb:Nat.beq im.kind 9 with
    | false=>rw [hb] at h; exact h.elim
    | true=>
     rw [hb,aR] at h
     cases hkk:ny i with
     | none=>rw [hkk] at h; exact h.elim
     | some skn=>
     obtain ⟨sk,sn⟩:=skn;rw [hkk] at h;have X:=tc hT hi hkk;obtain ⟨k,l,key,⟨hk,hkey,hlen,U⟩,hK⟩:=h;rw [oH] at hK;have hcl:=harr k _ hK;have hm:=CX hT him (aj hb) hfl;obtain ⟨es,clock,e1,q1,hll,E⟩:=Vr X.pos U (show RX c .ents k b (f8 sk l) (a.tmps.getD (xk k) Go.undef) from ht _ _ hk);have hq:=hW.xo k b _ e1;have hrx:RD c.m (.lit (.map (some b))) (a.eval x):=by have:=cc ht x; rwa [hx] at this
     have hvx:a.eval x = .map (some b):=by generalize a.eval x=u at hrx; cases hrx; rfl
     have hry:=cc ht y;rw [hkey] at hry;have hry':RD c.m (keyE sk key) (a.eval y):=hry.keyE_RD X.pos hlen;have hvy:=hry'.keyE X.pos hlen;have hrz:RD c.m (ev s z).pub (a.eval z):=(cc ht z).pub
     have hes:∀ e∈es.toList,∃ y:List Int,e.key=sf sk y/\y.length=sn:=fun e he=>by
      obtain ⟨j,hj,rfl⟩:=cw he;obtain ⟨p,p1,p2,_⟩:=E j _ (by rw [<- cL]; exact ai hj);exact ⟨p.1,p2,U p (aC p1)⟩
     have hex:∀ (u:Unit) (w':World),(Instr.mapUpdate t (.map (some b)) (sf sk key) (a.eval z)).run Γ.P w = .ok u w'->(execOp a.eval o).run Γ.P w = .ok .skip w':=fun u w' hr=>by
      rcases J with J | J <;> simp only [execOp,J,aD,hvx,hvy,hr,aw,aL]
     -- the new content
     have hsn:∀ p∈jM key (ev s z).pub l,p.1.length=sn:=fun p hp=>by
      rcases HA hp with h | h
      ·rw [h]; exact hlen
      ·exact U p h
     have fin:∀ (L:Array MapEntry) (A:Nat),(Instr.mapUpdate t (.map (some b)) (sf sk key) (a.eval z)).run Γ.P w = .ok () (w.putObj b (.map L A))->li L A->(jM key (ev s z).pub l).length=L.size ->
       (∀ (j:Nat) (p:List Int×AV) (e:MapEntry),(jM key (ev s z).pub l)[j]?=some p->L[j]?=some e->e.key=sf sk p.1/\RD c.m p.2 e.val)->o.wpIn Γ.F Γ.n Γ.P a w next Q:=by
      intro L A hrun B hsz hrel;obtain ⟨W1,W2,W3⟩:=hW.putX e1 (.map L A) rfl (fun _ _ _ h=>nomatch h);refine mG hΓ (by rcases J with J | J <;> (rw [J]; intro c hc; cases hc)) (hex _ _ hrun) ?_;rw [hdst];refine hn k _ hK hcl _ _ _ rfl (hI.next W3 W1 (d:=none) (v:=Go.undef) (by intro k hk; cases hk) (fun d z' hz=>?_)) W3 (lB hdst);rw [a8] at hz;split at hz
      ·cases hz;refine ⟨L,A,aX rfl,B,by rw [wd]; exact hsz,?_,?_,?_⟩
       ·intro r hr;obtain ⟨j,hj⟩:=cn hr;obtain ⟨p,_,rfl⟩:=we hj;rfl
       ·intro j r e y' h1 h2 h3;obtain ⟨p,p1,rfl⟩:=we h1;simp only [bw,aB] at h3;subst h3;rw [(hrel j p e p1 h2).1];exact ND _ X.pos (hsn p (aC p1))
       ·intro j r e y' h1 h2 h3;obtain ⟨p,p1,rfl⟩:=we h1;simp only [fg,bw,aB] at h3;subst h3;exact (hrel j p e p1 h2).2
      ·rename_i hd;have hz':=ht d z' hz
       cases z' with
       | me g k' n' N=>
        by_cases hk':k'=k
        ·subst hk'
         cases g with
         | sl=>obtain ⟨p1,p2,p3,p4,D,_⟩:=(show RX c .sl k' n' N (a.tmps.getD d Go.undef) from hz'); rw [e1] at D; cases D
         | ptr sz2 j2=>obtain ⟨p1,p2,p3,D,_⟩:=(show RX c (.ptr sz2 j2) k' n' N (a.tmps.getD d Go.undef) from hz'); rw [e1] at D; cases D
         | arr=>obtain ⟨p1,p2,p3,D,_⟩:=(show RX c .arr k' n' N (a.tmps.getD d Go.undef) from hz'); rw [e1] at D; cases D
         | row b0 c0=>obtain ⟨p1,p2,D,_⟩:=(show RX c (.row b0 c0) k' n' N (a.tmps.getD d Go.undef) from hz'); rw [e1] at D; cases D
         | mp=>
          obtain ⟨p1,p2,p3,D,p6⟩:=(show RX c .mp k' n' N (a.tmps.getD d Go.undef) from hz');rw [e1] at D; cases D;exact ⟨b,L,A,aX rfl,p6⟩
         | ents=>grind
         | sub sz2 l2=>obtain ⟨p1,p2,p3,p4,p6,D,_⟩:=(show RX c (.sub sz2 l2) k' n' N (a.tmps.getD d Go.undef) from hz'); rw [e1] at D; cases D
         | box=>obtain ⟨p1,p2,p3,D,_⟩:=(show RX c .box k' n' N (a.tmps.getD d Go.undef) from hz'); rw [e1] at D; cases D
        ·have:=hz'.leX W2;simp only [AV.unme,show Nat.beq k k'=false from by cases hb:Nat.beq k k' with | false=>rfl | true=>exact absurd (aj hb).symm hk'] at this;exact this
       | _=>exact hz'.leX W2
     rcases t8 (w:=w) X hm key hlen (a.eval z) hq.obj hes with ⟨h1,h2⟩ | ⟨j,e,h1,h2,h3⟩
     ·have hup:jM key (ev s z).pub l=l++[(key,(ev s z).pub)]:=BO fun p hp hc=>by
       obtain ⟨j,hj,rfl⟩:=cw hp;have hj':j<es.size:=by omega
       have hje:=aE hj';grind
      refine fin _ _ h1 ⟨fun i e he=>?_,fun i M e e' G H Z=>?_,fun i M e e' G H Z=>?_⟩ (by rw [hup]; simp [hll]) (fun i p e G H=>?_)
      ·rw [gE] at he;split at he
       ·cases he; simp
       ·have:=q1.1 i e he; omega
      ·rw [gE] at G H;split at G <;> split at H
       ·omega
       ·cases G; have:=q1.1 _ _ H; simp only at Z; omega
       ·cases H; have:=q1.1 _ _ G; simp only at Z; omega
       ·exact q1.2.1 i M e e' G H Z
      ·rw [gE] at G H;have hmem:∀ (n:Nat) (f:MapEntry),es[n]?=some f->f∈es.toList:=fun n f hf=>by grind
       split at G <;> split at H
       ·omega
       ·grind
       ·grind
       ·exact q1.2.2 i M e e' G H Z
      grind
     ·obtain ⟨p,p1,p2,p3⟩:=E j e h2;have hpk:p.1=key:=by rw [h3] at p2; exact (X.inj _ _ hlen (U p (aC p1)) p2).symm
      have huniq:∀ (i M:Nat) (q q':List Int×AV),l[i]?=some q->l[M]?=some q'->q.1=q'.1->i=M:=fun i M q q' G H Z=>by
       have hi1:i<es.size:=by rw [<- hll]; exact (am.1 G).1
       have hi2:M<es.size:=by rw [<- hll]; exact (am.1 H).1
       obtain ⟨r,r1,r2,_⟩:=E i _ (aE hi1);obtain ⟨r',r1',r2',_⟩:=E M _ (aE hi2);rw [G] at r1; cases r1;rw [H] at r1'; cases r1';exact q1.2.2 i M _ _ (aE hi1) (aE hi2) (by rw [r2,r2',Z])
      have hup:jM key (ev s z).pub l=l.set j (key,(ev s z).pub):=BN p1 hpk huniq
      have hget:∀ n,(es.modify j fun e=>{ e with key:=sf sk key,val:=a.eval z })[n]?=if j=n then (es[n]?).map (fun e=>{ e with key:=sf sk key,val:=a.eval z }) else es[n]?:=fun n=>by
       grind
      have B:∀ (n:Nat) (f:MapEntry),(es.modify j fun e=>{ e with key:=sf sk key,val:=a.eval z })[n]?=some f->∃ f0,es[n]?=some f0/\f0.born=f.born/\f0.key=f.key:=fun n f hf=>by
       grind
      refine fin _ _ h1 ⟨fun i e he=>?_,fun i M e e' G H Z=>?_,fun i M e e' G H Z=>?_⟩ (by rw [hup]; simp [hll]) (fun i p e G H=>?_)
      ·obtain ⟨f0,g1,g2,_⟩:=B i e he;rw [<- g2]; exact q1.1 i f0 g1
      ·obtain ⟨f0,g1,g2,_⟩:=B i e G;obtain ⟨f1,g1',g2',_⟩:=B M e' H;exact q1.2.1 i M f0 f1 g1 g1' (by rw [g2,g2',Z])
      ·obtain ⟨f0,g1,_,g2⟩:=B i e G;obtain ⟨f1,g1',_,g2'⟩:=B M e' H;exact q1.2.2 i M f0 f1 g1 g1' (by rw [g2,g2',Z])
      grind
   ·exact h.elim
  ·exact h.elim
 ·exact h.elim
end
end Go.AI
