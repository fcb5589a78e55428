/- Part 1 of the proof: an abstract interpreter for the code, contracts of the functions, and plain facts; the conditions are those typed. -/
import Derived.WalkKit
import Derived.WalkLawsBesides
import Derived.CallsIn
import Derived.RangeFuncNested
import Derived.Lib.TrailingZeros
import Derived.ChangeKeysEq
import Derived.MapKept
import Derived.KernelRfl
set_option linter.unusedSectionVars false
set_option linter.unusedVariables false
set_option linter.unusedSimpArgs false
namespace Go.AI
open Go
theorem aK {p:Prop} (h:p:=by kernel_rfl):p:=h
theorem am {p:Prop} (h:p:=by omega):p:=h
theorem bt {p:Prop} (h:p:=by decide):p:=h
theorem dc {p:Prop} (h:p:=by simp):p:=h
theorem a8 {p:Prop} (h:p:=by assumption):p:=h
abbrev ah:=@Nat.le_of_ble_eq_true
abbrev ai:=@List.getElem?_eq_getElem
abbrev ak:=@Nat.eq_of_beq_eq_true
abbrev al:=@Bool.and_eq_true
abbrev aq:=@List.getElem?_eq_some_iff
abbrev aw:=@Go.Result.andThen_ok
abbrev ax:=@congrArg
abbrev ay:=@List.length_map
abbrev aA:=@Option.map_eq_some_iff
abbrev aB:=@Option.some.injEq
abbrev aC:=@List.mem_of_getElem?
abbrev aD:=@Go.Sem.run_bind
abbrev aE:=@Array.getElem?_eq_getElem
abbrev aJ:=@Array.getD_eq_getD_getElem?
abbrev aL:=@Go.Sem.run_pure
abbrev aN:=@List.all_eq_true
abbrev aO:=@decide_eq_true_eq
abbrev aP:=@cond_true
abbrev aS:=@List.mem_cons_of_mem
abbrev aT:=@List.getElem?_map
abbrev aV:=@if_pos
abbrev aW:=@List.mem_cons_self
abbrev aX:=@Array.getElem?_eq_some_iff
abbrev aY:=@if_neg
abbrev a7:=@Go.run_underlying
abbrev ba:=@Nat.le_refl
abbrev bg:=@Nat.mul_le_mul_right
abbrev bp:=@List.mem_map
abbrev bq:=@cond_false
abbrev br:=@Bool.false_eq_true
abbrev bu:=@List.length_cons
abbrev bz:=@List.mem_range
abbrev bC:=@List.mem_cons
abbrev bD:=@List.getElem?_cons_zero
abbrev bG:=@Bool.true_and
abbrev bH:=@Nat.le_trans
abbrev bJ:=@Option.map_some
abbrev bM:=@List.getElem?_append_right
abbrev bP:=@decide_eq_true
abbrev bS:=@Nat.zero_add
abbrev bV:=@List.append_nil
abbrev bX:=@List.getElem_mem
abbrev cj:=@List.length_append
abbrev cp:=@List.map_cons
abbrev ct:=@List.getElem?_of_mem
abbrev cu:=@Bool.or_eq_true
abbrev cv:=@if_false
abbrev cB:=@List.getElem?_drop
abbrev cI:=@List.getElem_of_mem
abbrev cL:=@List.getElem?_append_left
abbrev cR:=@if_true
abbrev cU:=@Array.getElem?_toList
abbrev c7:=@List.drop_of_length_le
abbrev c8:=@Bool.not_eq_true'
abbrev da:=@Go.MapKept.run_getObj_map
abbrev db:=@List.range_eq_range'
abbrev dg:=@Go.World.putObj_heap_other
abbrev di:=@List.length_take
abbrev dj:=@List.getElem?_take
abbrev dk:=@Nat.ne_of_beq_eq_false
abbrev dv:=@Nat.lt_of_lt_of_le
abbrev dx:=@Array.getElem?_setIfInBounds
abbrev dy:=@List.drop_eq_getElem_cons
abbrev dE:=@Nat.add_mul
abbrev dN:=@List.mem_of_mem_take
abbrev d3:=@Nat.add_assoc
abbrev eb:=@Nat.add_zero
abbrev ei:=@beq_self_eq_true
abbrev eu:=@Bool.not_false
abbrev ew:=@Prod.mk.injEq
abbrev ey:=@Bool.or_false
abbrev eE:=@List.map_toArray
abbrev eZ:=@List.map_nil
abbrev fj:=@List.range'_succ
abbrev fk:=@List.getElem?_cons_succ
abbrev fx:=@Go.World.alloc_heap_new
abbrev fV:=@List.getElem?_toArray
abbrev fW:=@List.getElem?_eq_none
abbrev gn:=@List.mem_of_mem_drop
abbrev gG:=@List.cons.injEq
abbrev gI:=@Go.RowKit.Below.heap_alloc
abbrev gK:=@Array.getElem?_push
abbrev gX:=@Bool.false_or
abbrev iO:=@not_true_eq_false
abbrev iQ:=@List.size_toArray
abbrev jm:=@Bool.not_true
abbrev jn:=@Go.setRow_other
abbrev kr:=@List.length_nil
abbrev kW:=@Go.Oper.semAt_eq
abbrev lO:=@Nat.mod_eq_of_lt
abbrev lS:=@Go.World.cell?_alloc_lt
abbrev mE:=@Option.isSome_iff_exists
abbrev nq:=@Nat.mod_lt
abbrev nr:=@Nat.eq_zero_or_pos
abbrev nz:=@Go.World.size_drew
abbrev oe:=@Int.mul_comm
abbrev og:=@Array.size_append
abbrev oi:=@Array.getElem?_eq_none
abbrev oM:=@Go.run_storeCells_at
abbrev oN:=@Go.World.putObj_heap_same
abbrev oO:=@Go.World.alloc_eq
abbrev oP:=@Go.MapKept.run_setObj_map
abbrev pU:=@Option.getD_some
abbrev pV:=@Nat.lt_of_not_le
abbrev qo:=@List.eq_nil_of_length_eq_zero
abbrev rF:=@Nat.min_eq_left
abbrev rG:=@List.foldl_cons
abbrev sc:=@List.length_pos_iff
abbrev sB:=@Go.run_append_grow
abbrev tH:=@and_true
abbrev tT:=@Array.ext'
abbrev vX:=@Array.mapM_eq_mapM_toList
abbrev v8:=@Go.size_zeroCells
abbrev wd:=@Go.run_newObj
abbrev we:=@not_false_eq_true
abbrev wg:=@Go.growslice_fits
abbrev wh:=@Nat.one_mul
abbrev wl:=@List.ext_getElem?
abbrev yo:=@Go.setRow_heap
abbrev yr:=@Go.run_program
abbrev yJ:=@Go.Oper.uponIn_enter
abbrev yO:=@List.getElem?_replicate
abbrev yQ:=@Array.toList_map
abbrev A7:=@Nat.succ_mul
abbrev Bg:=@ne_eq
abbrev Bh:=@Option.map_none
abbrev Bi:=@List.head?_drop
abbrev HM:=@List.mapM_cons
abbrev L6:=@Go.run_append_nil
abbrev L8:=@Go.grownCap_ge
abbrev L9:=@Go.Sem.run_ite
abbrev Nl:=@beq_iff_eq
abbrev Oq:=@Array.getElem?_map
abbrev SV:=@Array.getElem?_setIfInBounds_ne
abbrev Wr:=@Go.run_equalIn_array
abbrev Wt:=@Go.cell_setRow_other
abbrev Ww:=@Go.Value.slice.injEq
abbrev aah:=@List.tail_drop
abbrev aam:=@Go.run_equalIn_int
abbrev aat:=@Go.Result.ok.injEq
abbrev abs:=@Go.RowKit.Below.refl
end Go.AI
namespace Go.AI
open Go
inductive Own where
 | no | full | id (k:Nat)
inductive Rh where
 | sl | ptr (sz j:Nat) | arr | mp | ents | sub (sz off:Nat) | box
 /-- A row whose block and room are known. -/
 | row (b cap:Nat)
inductive AV where
 | junk | undef
 | int (k:IntKind) (n:Int)
 | bool (b:Bool)
 | str (s:ByteArray)
 | lit (v:Value)
 | fn (f:FuncId)
 | clo (f:FuncId) (cap:List AV)
 | agg (cs:List AV)
 | tup (vs:List AV)
 | sl (o:Own) (sz:Nat) (xs:List (List AV))
 | loc (d off:Nat)
 | ref (cs:List AV)
 /-- A map that is written no more: its gO,each a key and a value. -/
 | mapv (xs:List (List AV))
 | me (g:Rh) (k n:Nat) (xs:List (List AV))
 /-- A pointer into a box whose block is known; the cells behind it that are written no more. -/
 | pin (k b off:Nat) (cs:List AV)
def eh (a:List Int):Value := .agg (a.map (Value.int .i64)).toArray
def keyA (a:List Int):AV := .agg (a.map (AV.int .i64))
def j8 (l:List (List Int×AV)):List (List AV):=l.map fun p=>[keyA p.1,p.2]
def iM (k:List Int) (v:AV):List (List Int×AV)->List (List Int×AV)
 | []=>[(k,v)]
 |(k',a)::r=>if k'=k then (k,v)::r else (k',a)::iM k v r
def cst:Value->AV
 | .int k n => .int k n
 | .bool b => .bool b
 | .string s => .str s
 | .nilFunc => .lit .nilFunc
 | .pointer none => .lit (.pointer none)
 | .map none => .lit (.map none)
 | .nilIface => .lit .nilIface
 | .slice none 0 0 => .sl .full 0 []
 | _ => .junk
def Rc:Value->AV
 | .agg cs => .agg (cs.toList.map cst)
 | v=>cst v
structure TI where
 size:Nat
 bytes:Nat
 zero:AV
 flds:List (Nat×Nat)
 arr:Nat
 elem:Nat
 /-- 0 other,1 struct,2 array,3 slice,4 int,5 bool,6 string,7 pointer,8 func,9 map -/
 kind:Nat
 ik:IntKind
 eqOK:Bool
def wV (P:Program) (f:Field):Bool:=f.name != "_" && ((P.underlying f.type).map fun | .int _=>true | .struct _=>true | _=>false).getD false
def Jl (P:Program) (e:TypeId):Bool:=((P.underlying e).map fun | .bool=>true | _=>false).getD false
def Ps (P:Program) (e:TypeId):Bool:=((P.underlying e).map fun | .int _=>true | _=>false).getD false
def ED (P:Program) (t e:TypeId):Bool := !P.eqGuardType P.depth t&&(P.info? e).isSome&&Ps P e&&(P.cellsOf e==1)
def zd (P:Program) (t e:TypeId):Bool := !P.eqGuardType P.depth t&&(P.info? e).isSome&&Jl P e&&(P.cellsOf e==1)
def TI.of (P:Program) (t:TypeId):Option TI:=
  match P.info? t,P.underlying t with
  | some i,some d=>some
    { size:=i.size,bytes:=i.bytes,zero:=match i.zero with | some z=>Rc z | none => .junk,
      flds:=match d with | .struct fs=>fs.toList.map fun f=>(f.offset,f.type) | .map k _=>[(0,k)] | .array _ e=>(bif zd P t e then [(0,e)] else bif ED P t e then [(1,e)] else []) | _=>[],
      arr:=match d with | .array n _=>n | .struct fs=>bif !P.stoodInHeld t && !P.eqGuardType P.depth t&&fs.toList.all (wV P) then 1 else 0 | _=>0,
      elem:=match d with | .array _ e=>e | .slice e=>e | .pointer e=>e | .map _ e=>e | _=>0,
      kind:=match d with | .struct _=>1 | .array _ _=>2 | .slice _=>3 | .int _=>4 | .bool=>5 | .string=>6 | .pointer _=>7 | .func _ _ _=>8 | .map _ _=>9 | _=>0,
      ik:=match d with | .int k=>k | _ => .i64,
      eqOK:=match d with | .struct fs => !P.stoodInHeld t && !P.eqGuardType P.depth t&&fs.toList.all (fun f=>f.name != "_" && ((P.underlying f.type).map fun | .int _=>true | _=>false).getD false&&(P.cellsOf f.type==1)) | _=>false }
  | _,_=>none
def Il:List (Nat×Nat)->Nat->Nat->Bool
 | [],m,n=>Nat.beq m n
 |(o,_)::r,m,n=>Nat.beq o m&&Il r (m+1) n
def uI (i:TI):Bool:=i.eqOK&&Il i.flds 0 i.size
def Zu:IntKind->Bool
 | .i64=>true
 | _=>false
def tG:List (Nat×Nat)->Nat
 | []=>0
 |(o,_)::_=>o+1
def qQ (i:TI):Bool:=Nat.beq i.kind 2&&(Nat.beq (tG i.flds) 2&&Nat.beq i.size i.arr)
def nK (i:TI):Option (Bool×Nat):=bif Nat.beq i.kind 4&&Zu i.ik then some (false,1) else bif uI i then some (true,i.size) else bif qQ i then some (true,i.arr) else none
def keyE (sk:Bool) (a:List Int):AV:=bif sk then keyA a else (match a with | n::_ => .int .i64 n | [] => .junk)
def Iu (l:List (List Int×AV)):List (List AV):=l.map fun p=>[keyE false p.1,p.2]
def gp (sk:Bool) (l:List (List Int×AV)):List (List AV):=bif sk then j8 l else Iu l
def mr (k:List Int):List (List Int×AV)->Option AV
 | []=>none
 |(k',a)::r=>if k'=k then some a else mr k r
def YN (ok:Bool) (z:AV):Option AV->AV
 | some v=>bif ok then .tup [v,.bool true] else v
 | none=>bif ok then .tup [z,.bool false] else z
def get {α:Type}:List (Nat×α)->Nat->Option α
 | [],_=>none
 |(d,v)::r,k=>bif Nat.beq d k then some v else get r k
abbrev eX:=List (Nat×TI)
def eX.OK (T:eX) (P:Program):Prop:=T.map (fun p=>TI.of P p.1)=T.map (fun p=>some p.2)
theorem eX.OK.get {T:eX} {P} (h:T.OK P) {t} {i} (g:AI.get T t=some i):TI.of P t=some i:=by
 unfold eX.OK at h
 induction T with
 | nil=>simp [AI.get] at g
 | cons p r b=>
  obtain ⟨d,v⟩:=p;simp only [cp,gG] at h;simp only [AI.get] at g
  cases a:Nat.beq d t with
  | true=>rw [a] at g; simp only [aP,aB] at g; rw [<- ak a,h.1,g]
  | false=>grind
def qk {α:Type}:List α->Nat->Option α
 | [],_=>none
 | x::_,0=>some x
 | _::r,n+1=>qk r n
structure St where
 t:List (Nat×AV)
 b:List (Nat×List AV)
def St.tmp (s:St) (d:Nat):AV:=match get s.t d with | some v=>v | none => .junk
def St.put (s:St) (d:Option Nat) (v:AV):St:=match d with | some d=>{ s with t:=(d,v)::s.t } | none=>s
def ev (s:St):Operand->AV
 | .tmp t=>s.tmp t
 | .const v=>cst v
 | .func f => .fn f
 | .global _ => .junk
def AV.go1 (v:AV) (K:AV->Prop):Prop:=
 match v with
 | .junk=>K .junk
 | .undef=>K .undef
 | .int k n=>K (.int k n)
 | .bool b=>K (.bool b)
 | .str s=>K (.str s)
 | .lit v=>K (.lit v)
 | .fn f=>K (.fn f)
 | .clo f cap=>K (.clo f cap)
 | .agg cs=>K (.agg cs)
 | .tup vs=>K (.tup vs)
 | .sl o sz xs=>K (.sl o sz xs)
 | .loc d off=>K (.loc d off)
 | .ref cs=>K (.ref cs)
 | .mapv xs=>K (.mapv xs)
 | .me g k n xs=>K (.me g k n xs)
 | .pin k b off cs=>K (.pin k b off cs)
theorem oL (v) (K:AV->Prop):v.go1 K=K v:=by cases v <;> rfl
def MZ:List AV->(List AV->Prop)->Prop
 | [],K=>K []
 | v::r,K=>v.go1 fun v=>MZ r fun r=>K (v::r)
theorem lY:∀ (l:List AV) (K:List AV->Prop),MZ l K=K l
 | [],_=>rfl
 | v::r,K=>by rw [MZ,oL,lY r]
def Xz:List (List AV)->(List (List AV)->Prop)->Prop
 | [],K=>K []
 | v::r,K=>MZ v fun v=>Xz r fun r=>K (v::r)
theorem D4:∀ (l:List (List AV)) (K:List (List AV)->Prop),Xz l K=K l
 | [],_=>rfl
 | v::r,K=>by rw [Xz,lY,D4 r]
def AV.go (v:AV) (K:AV->Prop):Prop:=v.go1 fun v=>match v with
 | .agg cs=>MZ cs fun cs=>K (.agg cs)
 | .ref cs=>MZ cs fun cs=>K (.ref cs)
 | .pin k b off cs=>MZ cs fun cs=>K (.pin k b off cs)
 | .me g k n xs=>match g,xs with
  | .box,[own]=>MZ own fun own=>K (.me .box k n [own])
  | g,xs=>K (.me g k n xs)
 | v=>K v
theorem AV.go_eq (v) (K:AV->Prop):v.go K=K v:=by
 unfold AV.go;rw [oL]
 cases v with
 | me g k n xs=>
  simp only;split
  ·exact lY _ _
  ·rfl
 | _=>first | rfl | exact lY _ _
def jC (f:AV->AV):List (Nat×AV)->List (Nat×AV)
 | []=>[]
 |(k,v)::r=>(k,f v)::jC f r
def IU (f:AV->AV):List (Nat×List AV)->List (Nat×List AV)
 | []=>[]
 |(k,v)::r=>(k,v.map f)::IU f r
theorem o9 (f:AV->AV):∀ t:List (Nat×AV),jC f t=t.map fun p=>(p.1,f p.2)
 | []=>rfl
 |(k,v)::r=>by rw [jC,o9 f r]; rfl
theorem yZ (f:AV->AV):∀ t:List (Nat×List AV),IU f t=t.map fun p=>(p.1,p.2.map f)
 | []=>rfl
 |(k,v)::r=>by rw [IU,yZ f r]; rfl
def YR:List (Nat×AV)->(List (Nat×AV)->Prop)->Prop
 | [],K=>K []
 |(k,v)::r,K=>v.go fun v=>YR r fun r=>K ((k,v)::r)
theorem qS:∀ (l:List (Nat×AV)) (K:List (Nat×AV)->Prop),YR l K=K l
 | [],_=>rfl
 |(k,v)::r,K=>by rw [YR,AV.go_eq,qS r]
def XA:List (Nat×List AV)->(List (Nat×List AV)->Prop)->Prop
 | [],K=>K []
 |(k,v)::r,K=>MZ v fun v=>XA r fun r=>K ((k,v)::r)
theorem Pj:∀ (l:List (Nat×List AV)) (K:List (Nat×List AV)->Prop),XA l K=K l
 | [],_=>rfl
 |(k,v)::r,K=>by rw [XA,lY,Pj r]
def St.go (s:St) (K:St->Prop):Prop:=match s with
 | ⟨t,b⟩=>YR t fun t=>XA b fun b=>K ⟨t,b⟩
theorem St.go_eq (s) (K:St->Prop):s.go K=K s:=by
 obtain ⟨t,b⟩:=s;simp only [St.go,qS,Pj]
def Yv:Op->Bool
 | .box _ _ | .alloc _ | .makeFunc _ _ _ | .makeSlice _ _ _ | .makeMap _ _=>true
 | .assign (.const (.slice none 0 0)) | .move (.const (.slice none 0 0))=>true
 | .call { callee := .builtin .append,args:=_,argTypes:=_ }=>true
 | _=>false
def D6 (op:Op) (s:St) (K:St->Prop):Prop:=bif Yv op then s.go K else K s
theorem uQ (op) (s) (K):D6 op s K=K s:=by
 unfold D6
 cases Yv op with
 | true=>rw [aP,St.go_eq]
 | false=>rfl
def goB (s:St) (K:St->Prop):Prop:=match s with
 | ⟨t,(d,cs)::b⟩=>MZ cs fun cs=>K ⟨t,(d,cs)::b⟩
 | ⟨t,[]⟩=>K ⟨t,[]⟩
theorem ZA (s) (K):goB s K=K s:=by
 obtain ⟨t,b⟩:=s
 cases b with
 | nil=>rfl
 | cons p b=>obtain ⟨d,cs⟩:=p; exact lY _ _
def Zz (k:Nat) (s:St) (K:St->Prop):Prop:=match s with
 | ⟨t,(d,cs)::b⟩=>bif Nat.beq d k then MZ cs fun cs=>K ⟨t,(d,cs)::b⟩ else K ⟨t,(d,cs)::b⟩
 | ⟨t,[]⟩=>K ⟨t,[]⟩
theorem XB (k) (s) (K):Zz k s K=K s:=by
 obtain ⟨t,b⟩:=s
 cases b with
 | nil=>rfl
 | cons p b=>
  obtain ⟨d,cs⟩:=p;simp only [Zz]
  cases Nat.beq d k with
  | true=>rw [aP]; exact lY _ _
  | false=>rfl
def AV.isCell:AV->Bool
 | .int _ _ | .bool _ | .str _ | .lit _ | .fn _ | .clo _ _ | .sl _ _ _ | .ref _ | .mapv _ | .pin _ _ _ _=>true
 | _=>false
def AV.cells?:AV->Option (List AV)
 | .agg cs=>some cs
 | .junk | .undef | .tup _ | .loc _ _ | .me _ _ _ _=>none
 | x=>some [x]
def AV.pub1:AV->AV
 | .loc _ _ | .me _ _ _ _ => .junk
 | .sl (.id _) sz xs => .sl .no sz xs
 | x=>x
def AV.pub:AV->AV
 | .agg cs => .agg (cs.map AV.pub1)
 | .tup vs => .tup vs
 | x=>x.pub1
def AV.demO (k:Nat):AV->AV
 | .sl (.id j) sz xs => .sl (bif Nat.beq j k then .no else .id j) sz xs
 | x=>x
def AV.dem1 (k:Nat):AV->AV
 | .junk => .junk
 | .sl (.id j) sz xs => .sl (bif Nat.beq j k then .no else .id j) sz xs
 | .me .box j b xs => .me .box j b (xs.map fun r=>r.map (AV.demO k))
 | x=>x
def AV.dem (k:Nat):AV->AV
 | .agg cs => .agg (cs.map (AV.dem1 k))
 | x=>x.dem1 k
def St.dem (k:Nat) (s:St):St:={ t:=jC (AV.dem k) s.t,b:=IU (AV.dem1 k) s.b }
def Np {α:Type}:List α->List α->Bool
 | [],_=>true
 | _::_,_::_=>true
 | _::_,[]=>false
def tl {α:Type}:List α->Bool
 | []=>false
 | _::_=>true
theorem Rf {α} {xs a:List α} (h:Np xs a=true):xs=[]\/a≠[]:=by
 cases xs with
 | nil=>exact .inl rfl
 | cons x r=>
  cases a with
  | nil=>cases h
  | cons y q=>exact .inr dc
def dB {α:Type}:List α->Nat->α->List α
 | [],_,_=>[]
 | _::r,0,v=>v::r
 | x::r,n+1,v=>x::dB r n v
def setMany {α:Type} (l:List α) (off:Nat):List α->List α
 | []=>l
 | v::vs=>setMany (dB l off v) (off+1) vs
def uj {α:Type}:List α->Nat->List α->List α
 | [],_,_=>[]
 | x::r,0,[]=>x::r
 | _::r,0,v::vs=>v::uj r 0 vs
 | x::r,n+1,vs=>x::uj r n vs
theorem xC {α:Type}:∀ (vs:List α) (n:Nat),setMany ([]:List α) n vs=[]
 | [],_=>rfl
 | _::vs,n=>xC vs (n+1)
theorem o2 {α:Type} (x:α):∀ (vs r:List α) (n:Nat),setMany (x::r) (n+1) vs=x::setMany r n vs
 | [],_,_=>rfl
 | v::vs,r,n=>o2 x vs (dB r n v) (n+1)
theorem lr {α:Type}:∀ (l:List α) (n:Nat) (vs:List α),uj l n vs=setMany l n vs
 | [],n,vs=>(xC vs n).symm
 | _::_,0,[]=>rfl
 | _::r,0,v::vs=>by rw [uj,lr r]; exact (o2 v vs r 0).symm
 | x::r,n+1,vs=>by rw [uj,lr r,o2]
def eS (i:TI) (cs:List AV):Option AV:=
 bif Nat.beq i.kind 1||Nat.beq i.kind 2 then (bif Nat.ble i.size cs.length then some (.agg (cs.take i.size)) else none)
 else match cs with | c::_=>some c | []=>none
def fill (place:Nat->Option (Nat×Nat)) (cells:List AV):List (Nat×AV)->Option (List AV)
 | []=>some cells
 |(i,v)::rest=>
  match place i with
  | none=>none
  | some (off,size)=>
   match v.cells? with
   | none=>none
   | some cs=>bif Nat.beq cs.length size&&Nat.ble (off+size) cells.length then fill place (setMany cells off cs) rest else none
def Jc (place:Nat->Option (Nat×Nat)) (cells:List AV) (l:List (Nat×AV)) (K:List AV->Prop):Prop:=match l with
 | []=>K cells
 |(i,v)::rest=>
  match place i with
  | none=>False
  | some (off,size)=>
   match v.cells? with
   | none=>False
   | some cs=>bif Nat.beq cs.length size&&Nat.ble (off+size) cells.length then MZ (uj cells off cs) fun cells=>Jc place cells rest K else False
theorem uR (place:Nat->Option (Nat×Nat)) (K:List AV->Prop):∀ (l:List (Nat×AV)) (cells:List AV),Jc place cells l K=match fill place cells l with | some cs=>K cs | none=>False
 | [],_=>rfl
 |(i,v)::rest,cells=>by
  simp only [Jc,fill]
  cases place i with
  | none=>rfl
  | some q=>
   obtain ⟨off,size⟩:=q;simp only
   cases v.cells? with
   | none=>rfl
   | some cs=>
    simp only
    cases (Nat.beq cs.length size&&Nat.ble (off+size) cells.length) with
    | true=>simp only [aP,lY,lr]; exact uR place K rest _
    | false=>rfl
def nf (op:BinOp) (k:IntKind) (x y:Int):Int:=
 let a:=BitVec.ofInt k.bits x
 let b:=BitVec.ofInt k.bits y
 match op with
 | .and=>k.wrap (a &&& b).toNat
 | .or=>k.wrap (a ||| b).toNat
 | .xor=>k.wrap (a ^^^ b).toNat
 | .andNot=>k.wrap (a &&& ~~~b).toNat
 | _=>0
def bandW (b:Bool) (A:Prop):Prop:=bif b then A else False
theorem pC {b} {A} (h:bandW b A):b=true/\A:=by
 cases b with
 | true=>exact ⟨rfl,h⟩
 | false=>exact h.elim
def wP:IntKind->IntKind->Bool
 | .i8,.i8=>true | .i16,.i16=>true | .i32,.i32=>true | .i64,.i64=>true
 | .u8,.u8=>true | .u16,.u16=>true | .u32,.u32=>true | .u64,.u64=>true
 | _,_=>false
theorem rQ {k k'} (h:wP k k'=true):k=k':=by cases k <;> cases k' <;> first | rfl | cases h
def ikW (k k':IntKind) (A:Prop):Prop:=bif wP k k' then A else False
theorem f9 {k k'} {A} (h:ikW k k' A):k=k'/\A:=by
 unfold ikW at h
 cases a:wP k k' with
 | true=>grind [rQ]
 | false=>grind
def nL:List (Nat×Nat)->List AV->List AV->Option Bool
 | [],_,_=>some true
 |(off,_)::r,xs,a=>
  match qk xs off,qk a off,nL r xs a with
  | some (.int k x),some (.int k' y),some b=>bif wP k k' then some ((x==y)&&b) else none
  | _,_,_=>none
def Ux (T:eX) (f:Nat->List AV->List AV->Option Bool):List (Nat×Nat)->List AV->List AV->Option Bool
 | [],_,_=>some true
 |(off,ft)::r,xs,c=>match get T ft with
  | none=>none
  | some j=>bif Nat.beq j.kind 4 then
    (match qk xs off,qk c off,Ux T f r xs c with
    | some (.int k x),some (.int k' y),some b=>bif wP k k' then some ((x==y)&&b) else none
    | _,_,_=>none)
   else match f ft ((xs.drop off).take j.size) ((c.drop off).take j.size),Ux T f r xs c with
    | some a,some b=>some (a&&b)
    | _,_=>none
def pq:Nat->List AV->List AV->Option Bool
 | 0,_,_=>some true
 | n+1,.bool x::xs,.bool y::a=>match pq n xs a with
  | some b=>some ((x==y)&&b)
  | none=>none
 | _,_,_=>none
def pp:Nat->List AV->List AV->Option Bool
 | 0,_,_=>some true
 | n+1,.int k x::xs,.int k' y::a=>match pp n xs a with
  | some b=>bif wP k k' then some ((x==y)&&b) else none
  | none=>none
 | _,_,_=>none
def wW (T:eX):Nat->Nat->List AV->List AV->Option Bool
 | 0,_,_,_=>none
 | n+1,t,xs,a=>match get T t with
  | none=>none
  | some i=>bif i.eqOK then nL i.flds xs a else bif Nat.beq i.kind 1&&Nat.beq i.arr 1 then Ux T (wW T n) i.flds xs a else bif Nat.beq i.kind 2&&Nat.beq (tG i.flds) 1 then pq i.arr xs a else bif Nat.beq i.kind 2&&Nat.beq (tG i.flds) 2 then pp i.arr xs a else none
def MG (T:eX) (op:BinOp) (t:TypeId) (b:Bool) (K:AV->Prop):Prop:=
 match get T t,op with
 | some i,.eql=>bandW (Nat.beq i.kind 8) (K (.bool b))
 | some i,.neq=>bandW (Nat.beq i.kind 8) (K (.bool (!b)))
 | _,_=>False
def yI (T:eX) (op:BinOp) (t:TypeId) (a b:AV) (K:AV->Prop):Prop:=
 match a,b with
 | .int k x,.int k' y=>
  match op with
  | .add=>ikW k k' (K (.int k (k.wrap (x+y))))
  | .sub=>ikW k k' (K (.int k (k.wrap (x - y))))
  | .mul=>ikW k k' (K (.int k (k.wrap (x*y))))
  | .quo=>ikW k k' (y≠0/\K (.int k (k.wrap (x.tdiv y))))
  | .rem=>ikW k k' (y≠0/\K (.int k (x.tmod y)))
  | .and=>ikW k k' (K (.int k (nf .and k x y)))
  | .or=>ikW k k' (K (.int k (nf .or k x y)))
  | .xor=>ikW k k' (K (.int k (nf .xor k x y)))
  | .andNot=>ikW k k' (K (.int k (nf .andNot k x y)))
  | .shl=>0<=y/\K (.int k (k.wrap (x*2 ^ (min y.toNat k.bits))))
  | .shr=>0<=y/\K (.int k (x.fdiv (2 ^ (min y.toNat k.bits))))
  | .eql=>ikW k k' (K (.bool (x==y)))
  | .neq=>ikW k k' (K (.bool (x != y)))
  | .lss=>ikW k k' (K (.bool (decide (x<y))))
  | .leq=>ikW k k' (K (.bool (decide (x<=y))))
  | .gtr=>ikW k k' (K (.bool (decide (x>y))))
  | .geq=>ikW k k' (K (.bool (decide (x>=y))))
 | .bool x,.bool y=>
  match get T t,op with
  | some i,.eql=>bandW (Nat.beq i.kind 5) (K (.bool (x==y)))
  | some i,.neq=>bandW (Nat.beq i.kind 5) (K (.bool (x != y)))
  | _,_=>False
 | .agg xs,.agg c=>
  match get T t,op with
  | some _,.eql=>match wW T 4 t xs c with | some e=>K (.bool e) | none=>False
  | some _,.neq=>match wW T 4 t xs c with | some e=>K (.bool (!e)) | none=>False
  | _,_=>False
 | .lit u,.lit v=>match u,v with
  | .nilFunc,.nilFunc=>MG T op t true K
  | _,_=>False
 | .clo _ _,.lit v=>match v with
  | .nilFunc=>MG T op t false K
  | _=>False
 | .fn _,.lit v=>match v with
  | .nilFunc=>MG T op t false K
  | _=>False
 | _,_=>False
def unW (op:UnOp) (a:AV) (K:AV->Prop):Prop:=
 match op,a with
 | .neg,.int k x=>K (.int k (k.wrap (0 - x)))
 | .not,.bool b=>K (.bool (!b))
 | _,_=>False
def jZ (o:Option AV) (a:Nat) (K:Nat->Prop):Prop:=
 match o with
 | none=>K a
 | some (.int _ n)=>0<=n/\K n.toNat
 | _=>False
def mu (big:Bool) (k:IntKind) (x:Int):List AV->Option Int
 | []=>some x
 | .int _ y::r=>mu big k (bif big then max x y else min x y) r
 | _=>none
open Go
def T3 (T:eX) (p:Nat×Nat):Bool:=match get T p.2 with | some _=>true | none=>false
def szOK (size sz:Nat) (xs:List (List AV)) (K:Prop):Prop:=
 bif Nat.beq size sz then K else match xs with | []=>K | _::_=>False
def rj (v:AV):Option (List AV):=match v.cells? with
 | some cs=>bif cs.all (fun c=>c.isCell) then some (cs.map AV.pub1) else none
 | none=>none
def kI (e:Operand->AV):List (Nat×Operand)->Nat->Nat->Option (List (List AV))
 | [],_,_=>some []
 |(i,x)::r,n,sz=>match rj (e x),kI e r (n+1) sz with
  | some cs,some l=>bif Nat.beq i n&&Nat.beq cs.length sz then some (cs::l) else none
  | _,_=>none
section
variable (T:eX) (C:FuncId->List AV->AV->Prop) (bx:List (Nat×List AV)) (e:Operand->AV)
def gM (ty:TypeId):Op->(AV->Prop)->Prop
 | .move x,K | .assign x,K=>K (e x)
 | .pick c a b,K=>match e c with
  | .bool t=>bif t then K (e a) else K (e b)
  | _=>False
 | .binOp op t x y _,K=>yI T op t (e x) (e y) K
 | .unOp op _ x,K=>unW op (e x) K
 | .load t x,K=>match get T t with
  | none=>False
  | some i=>match e x with
   | .loc d off=>match get bx d with
    | some cs=>match eS i (cs.drop off) with | some v=>K v | none=>False
    | none=>False
   | .ref cs=>match eS i cs with | some v=>K v | none=>False
   | .pin _ _ _ cs=>match eS i cs with | some v=>K v | none=>False
   | _=>False
 | .nilCheck x,K=>match e x with
  | .loc d off=>K (.loc d off)
  | .ref cs=>K (.ref cs)
  | .pin k b off cs=>K (.pin k b off cs)
  | _=>False
 | .fieldAddr t x f,K=>match get T t with
  | none=>False
  | some i=>bif Nat.beq i.kind 1 then match qk i.flds f with
   | none=>False
   | some (off,ft)=>match get T ft with
    | none=>False
    | some j=>bif Nat.beq j.size 0 then False else match e x with
     | .loc d o=>K (.loc d (o+off))
     | .ref cs=>K (.ref (cs.drop off))
     | .pin k b o cs=>K (.pin k b (o+off) (cs.drop off))
     | _=>False
   else False
 | .field t x f,K=>match get T t with
  | none=>False
  | some i=>bif Nat.beq i.kind 1 then match qk i.flds f with
   | none=>False
   | some (off,ft)=>match get T ft with
    | none=>False
    | some j=>match e x with
     | .agg cs=>bif Nat.ble (off+j.size) cs.length then match eS j (cs.drop off) with | some v=>K v | none=>False else False
     | _=>False
   else False
 | .indexAddr t x n,K=>match get T t with
  | none=>False
  | some i=>match get T i.elem with
   | none=>False
   | some j=>match e n with
    | .int _ n=>match e x with
     | .sl _ sz xs=>bif Nat.beq i.kind 3 then szOK j.size sz xs (0<=n/\∃ cs,xs[n.toNat]?=some cs/\K (.ref cs)) else False
     | .loc d off=>bif Nat.beq i.kind 2 then 0<=n/\n<i.arr/\K (.loc d (off+n.toNat*j.size)) else False
     | .ref cs=>bif Nat.beq i.kind 2 then 0<=n/\n<i.arr/\K (.ref (cs.drop (n.toNat*j.size))) else False
     | _=>False
    | _=>False
 | .index t x n,K=>match get T t with
  | none=>False
  | some i=>match get T i.elem with
   | none=>False
   | some j=>match e n,e x with
    | .int _ n,.agg cs=>bif Nat.beq i.kind 2 then 0<=n/\n<i.arr/\n.toNat*j.size+j.size<=cs.length/\(match eS j (cs.drop (n.toNat*j.size)) with | some v=>K v | none=>False) else False
    | _,_=>False
 | .sliceToArrayPointer t x,K=>match get T t with
  | none=>False
  | some i=>match e x with
   | .sl _ _ xs=>bif Nat.beq i.kind 2 then (0<xs.length/\i.arr<=xs.length)/\K (.ref xs.flatten) else False
   | _=>False
 | .slice t x lo hi q,K=>match get T t with
  | none=>False
  | some i=>match get T i.elem with
   | none=>False
   | some j=>match e x with
    | .sl _ sz xs=>bif Nat.beq i.kind 3 then szOK j.size sz xs (
      jZ (lo.map e) 0 fun l=>jZ (hi.map e) xs.length fun h=>
       match q.map e with
       | none=>l<=h/\h<=xs.length/\K (.sl .no sz ((xs.take h).drop l))
       | some (.int _ m)=>bif hi.isSome then l<=h/\h<=xs.length/\m=h/\K (.sl .full sz ((xs.take h).drop l)) else False
       | some _=>False) else False
    | _=>False
 | .extract x n,K=>match e x with
  | .tup vs=>match qk vs n with | some v=>K v | none=>False
  | _=>False
 | .build t parts,K=>match get T t with
  | none=>False
  | some i=>match i.zero with
   | .agg p=>bif Nat.beq i.kind 1&&i.flds.all (T3 T) then
     Jc (fun f=>match qk i.flds f with | some (off,ft)=>(match get T ft with | some j=>some (off,j.size) | none=>none) | none=>none) p (parts.toList.map fun (j,x)=>(j,e x)) fun cs=>bif cs.all (fun c=>c.isCell) then K (.agg cs) else False
    else bif Nat.beq i.kind 2 then match get T i.elem with
     | none=>False
     | some k=>Jc (fun n=>some (n*k.size,k.size)) p (parts.toList.map fun (j,x)=>(j,e x)) fun cs=>bif cs.all (fun c=>c.isCell) then K (.agg cs) else False
    else False
   | _=>False
 | .buildSlice t n parts,K=>match get T t with
  | none=>False
  | some i=>match get T i.elem with
   | none=>False
   | some j=>bif Nat.beq i.kind 3&&Nat.beq parts.toList.length n&&Nat.ble (n*j.size) 100000 then
     match kI e parts.toList 0 j.size,j.zero.cells? with
     | some xs,some _=>Xz xs fun xs=>K (.sl .full j.size xs)
     | _,_=>False
    else False
 | .convert src dst x,K=>match get T src,get T dst with
  | some _,some i=>match e x with
   | .int k n=>bif Nat.beq i.kind 4 then K (.int i.ik (i.ik.wrap n)) else False
   | _=>False
  | _,_=>False
 | .call c,K=>match c.callee with
  | .value f=>match e f with
   | .fn g=>∃ r,C g (c.args.toList.map fun x=>(e x).pub) r/\K r
   | .clo g cap=>∃ r,C g ((c.args.toList.map fun x=>(e x).pub)++cap) r/\K r
   | _=>False
  | .builtin .len=>match c.args.toList,c.argTypes.toList with
   | [x],[t]=>match get T t with
    | none=>False
    | some i=>match e x with
     | .sl _ _ xs=>bif Nat.beq i.kind 3 then K (.int .i64 xs.length) else False
     | _=>bif Nat.beq i.kind 2 then K (.int .i64 i.arr) else False
   | _,_=>False
  | .builtin .max=>match c.args.toList.map e with
   | .int k x::r=>match mu true k x r with | some z=>K (.int k z) | none=>False
   | _=>False
  | .builtin .min=>match c.args.toList.map e with
   | .int k x::r=>match mu false k x r with | some z=>K (.int k z) | none=>False
   | _=>False
  | _=>False
 | _,_=>False
end
def AV.unloc (d:Nat):AV->AV
 | .loc a o=>bif Nat.beq d a then .junk else .loc a o
 | x=>x
def unloc (d:Nat) (t:List (Nat×AV)):List (Nat×AV):=jC (AV.unloc d) t
def AV.frz (d:Nat) (cs:List AV):AV->AV
 | .loc a o=>bif Nat.beq d a then .ref (cs.drop o) else .loc a o
 | x=>x
def St.frz (d:Nat) (cs:List AV) (s:St):St:=⟨jC (AV.frz d cs) s.t,(d,[])::s.b⟩
def BE:List Operand->St->(St->List AV->Prop)->Prop
 | [],s,K=>K s []
 | x::r,s,K=>match ev s x with
  | .loc d 0=>match get s.b d with
   | some (c::cs)=>BE r (s.frz d ((c::cs).map AV.pub1)) fun s l=>K s (.ref ((c::cs).map AV.pub1)::l)
   | _=>False
  | v=>bif v.isCell then BE r s fun s l=>K s (v.pub1::l) else False
def nF (d j:Nat):Nat:=1000000+1000*d+j
def fm (d:Nat):Nat->List AV->List AV
 | _,[]=>[]
 | j,.sl .full 0 []::r => .sl (.id (nF d j)) 0 []::fm d (j+1) r
 | j,c::r=>c::fm d (j+1) r
def o6 (d:Nat):Nat->List AV->List Nat
 | _,[]=>[]
 | j,.sl .full 0 []::r=>nF d j::o6 d (j+1) r
 | j,_::r=>o6 d (j+1) r
def St.demMany (s:St):List Nat->St
 | []=>s
 | k::r=>(s.dem k).demMany r
def n0 (j:TI):Bool:=match j.zero.cells? with | some zs=>Nat.beq zs.length j.size | none=>false
def IG (o:Own) (size sz:Nat):Bool:=match o with | .id _=>Nat.beq size sz||Nat.beq sz 0 | _=>true
def gR (n bytes:Nat):Prop:=n*bytes<=70368744177664
def Dv (bx:List (Nat×List AV)) (d off:Nat) (vs:List AV):Option (List (Nat×List AV)):=
 match get bx d with
 | none=>none
 | some cs=>bif Nat.ble (off+vs.length) cs.length&&Nat.blt 0 vs.length then some ((d,uj cs off vs)::bx) else none
section
variable (T:eX) (C:FuncId->List AV->AV->Prop)
def fJ (s:St) (dst:Option Nat) (v:AV) (K:St->Prop):Prop:=match s,dst with
 | ⟨t,b⟩,some d=>K ⟨(d,v)::t,b⟩
 | s,none=>K s
def nu (s:St) (dst:Option Nat) (ty:TypeId) (op:Op) (K:St->Prop):Prop:=
 match op with
 | .box t x=>match dst,get T t,(ev s x).cells? with
  | some d,some i,some cs=>bif Nat.beq cs.length i.size&&cs.all (fun c=>c.isCell) then K ⟨(d,.loc d 0)::(unloc d s.t),(d,cs)::s.b⟩ else False
  | _,_,_=>False
 | .alloc t=>match dst,get T t with
  | some d,some i=>match i.zero.cells? with
   | some cs=>bif Nat.beq cs.length i.size&&cs.all (fun c=>c.isCell) then match (s.demMany (o6 d 0 cs)) with
     | ⟨t,b⟩=>K ⟨(d,.loc d 0)::unloc d t,(d,fm d 0 cs)::b⟩ else False
   | none=>False
  | _,_=>False
 | .store t a x=>match dst,get T t,ev s a,(ev s x).cells? with
  | none,some i,.loc d off,some cs=>bif Nat.beq cs.length i.size&&cs.all (fun c=>c.isCell) then
    match Dv s.b d off cs with
    | some b=>K { s with b:=b }
    | none=>False
   else False
  | _,_,_,_=>False
 | .makeFunc (.func f) first captured=>bif first.toList.isEmpty then BE captured.toList s fun s l=>match s,dst with
   | ⟨t,b⟩,some d=>K ⟨(d,.clo f l)::t,b⟩
   | s,none=>K s
  else False
 | .assign (.const (.slice none 0 0)) | .move (.const (.slice none 0 0))=>match dst,get T ty with
  | some d,some i=>match get T i.elem with
   | some j=>bif Nat.beq i.kind 3 then match s.dem d with | ⟨t,b⟩=>K ⟨(d,.sl (.id d) j.size [])::t,b⟩ else False
   | none=>False
  | _,_=>False
 | .makeSlice t l c=>match dst,get T t with
  | some d,some i=>match get T i.elem with
   | some j=>match ev s l,ev s c with
    | .int _ l,.int _ c=>match j.zero.cells? with
     | some n=>bif Nat.beq i.kind 3&&Nat.beq n.length j.size&&n.all (fun c=>c.isCell)&&Nat.blt 0 j.size then
       0<=l/\l<=c/\gR c.toNat j.bytes/\c<=4611686018427387904/\match s.dem d with | ⟨t,b⟩=>K ⟨(d,.sl (.id d) j.size (List.replicate l.toNat n))::t,b⟩ else False
     | none=>False
    | _,_=>False
   | none=>False
  | _,_=>False
 | .call { callee := .builtin .append,args:=args,argTypes:=q }=>match args.toList,q.toList,dst with
  | [x,y],[t,p],some d=>match get T t with
   | some i=>match get T i.elem with
    | some j=>match ev s x,ev s y with
     | .sl o sz xs,.sl _ m h=>bif Nat.beq i.kind 3&&Nat.beq t p&&n0 j&&Nat.blt 0 j.size&&IG o j.size sz then szOK j.size sz xs (szOK j.size m h (gR (xs.length+h.length) j.bytes/\xs.length+h.length<=4611686018427387904 /\
       match o with
       | .full=>bif Np xs h then match s.dem d with | ⟨t,b⟩=>K ⟨(d,.sl (.id d) j.size (xs++h))::t,b⟩ else bif tl h then False else match s with | ⟨t,b⟩=>K ⟨(d,.sl .full sz xs)::t,b⟩
       | .id k=>match s.dem k with | ⟨t,b⟩=>K ⟨(d,.sl (.id k) j.size (xs++h))::t,b⟩
       | .no=>False)) else False
     | _,_=>False
    | none=>False
   | none=>False
  | _,_,_=>False
 | op=>gM T C s.b (ev s) ty op fun v=>v.go fun v=>fJ s dst v K
end
def xk (k:Nat):Nat:=2000000000+k
def lo (k:Nat):Nat:=bif Nat.blt k 5000000 then 0 else k % 1000
def Pe:Rh->Bool
 | .arr | .row _ _=>true
 | _=>false
def iH (s:St) (k:Nat):Option (Nat×List (List AV)):=match get s.t (xk k) with
 | some (.me g k' sz xs)=>bif Pe g&&(Nat.beq k' k&&Nat.beq (lo k) 0) then some (sz,xs) else none
 | _=>none
def zB (s:St) (k:Nat):Option (Nat×Nat):=match get s.t (xk k) with
 | some (.me (.row b cap) _ _ _)=>some (b,cap)
 | _=>none
def rowK (s:St) (k sz:Nat) (xs:List (List AV)) (K:AV->Prop):Prop:=match zB s k with
 | some (b,cap)=>K (.me (.row b cap) k sz xs)
 | none=>K (.me .arr k sz xs)
def iE:Rh->Bool
 | .arr | .ents | .box | .row _ _=>true
 | _=>false
def zH (s:St) (k:Nat):Option (Nat×List AV):=match get s.t (xk k) with
 | some (.me .box k' b [own])=>bif Nat.beq k' k then some (b,own) else none
 | _=>none
def qe (k:Nat):List (Nat×AV)->Bool
 | []=>true
 |(d,.me g k' _ _)::r=>(!iE g||(Nat.beq d (xk k) || !Nat.beq k k'))&&qe k r
 | _::r=>qe k r
def AV.unme (k:Nat):AV->AV
 | .me g k' n xs=>bif Nat.beq k k' then .junk else .me g k' n xs
 | x=>x
def vY (k sz:Nat) (xs:List (List AV)):AV->AV
 | .me g k' n a=>bif Nat.beq k k' then (match g with | .sl => .sl .no sz xs | _ => .junk) else .me g k' n a
 | x=>x
def kC (s:St) (l:List Operand) (K:St->Prop):Prop:=match l with
 | []=>K s
 | x::r=>match ev s x with
  | .me .sl k _ _=>match iH s k with
   | some (sz,xs)=>(⟨jC (vY k sz xs) s.t,s.b⟩:St).go fun s=>kC s r K
   | none=>False
  | _=>kC s r K
section
variable (T:eX) (C:FuncId->List AV->AV->Prop)
def iT (s:St) (dst:Option Nat) (t:TypeId) (k len:Nat) (i:Int) (K:St->Prop):Prop:=match get T t with
 | none=>False
 | some a=>match get T a.elem with
  | none=>False
  | some j=>match iH s k with
   | none=>False
   | some (sz,_)=>bif Nat.beq a.kind 3&&Nat.beq j.size sz then 0<=i/\i<len/\fJ s dst (.me (.ptr sz 0) k i.toNat []) K else False
def oS (s:St) (dst:Option Nat) (t:TypeId) (f sz j k i:Nat) (K:St->Prop):Prop:=match get T t with
 | none=>False
 | some a=>bif Nat.beq a.kind 1 then match qk a.flds f with
   | none=>False
   | some (off,ft)=>match get T ft with
    | none=>False
    | some u=>bif Nat.beq u.size 0 then False else fJ s dst (.me (.ptr sz (j+off)) k i []) K
  else False
def Oz (s:St) (dst:Option Nat) (t:TypeId) (sz j k i:Nat) (K:St->Prop):Prop:=match get T t with
 | none=>False
 | some b=>match iH s k with
  | none=>False
  | some (a,xs)=>bif Nat.beq a sz then ∃ r,xs[i]?=some r/\match eS b (r.drop j) with | some v=>v.go fun v=>fJ s dst v K | none=>False else False
def yR (s:St) (dst:Option Nat) (t:TypeId) (sz j k i:Nat) (v:AV) (K:St->Prop):Prop:=match dst,get T t,v.cells? with
 | none,some d,some cs=>match iH s k with
  | none=>False
  | some (a,xs)=>bif Nat.beq a sz&&(Nat.beq cs.length d.size&&(cs.all (fun c=>c.isCell)&&(Nat.ble (j+cs.length) sz&&Nat.blt 0 cs.length))) then
    ∃ r,xs[i]?=some r/\rowK s k sz (dB xs i (uj r j (cs.map AV.pub1))) (fun v=>K ⟨(xk k,v)::s.t,s.b⟩) else False
 | _,_,_=>False
def Mf (s:St) (dst:Option Nat) (t:TypeId) (sz j k i:Nat) (v:AV) (K:St->Prop):Prop:=bif qe k s.t then yR T s dst t sz j k i v K else False
def Dm (s:St) (dst:Option Nat) (h:List TypeId) (y:AV) (K:St->Prop):Prop:=match dst,h with
 | some d,[t,i]=>match get T t with
  | none=>False
  | some f=>match get T f.elem with
   | none=>False
   | some j=>match y with
    | .sl _ c a=>bif Nat.beq f.kind 3&&(Nat.beq t i&&(n0 j&&Nat.blt 0 j.size)) then szOK j.size c a (0<a.length/\gR a.length j.bytes/\a.length<=4611686018427387904 /\
      K ⟨(d,.me .sl d a.length [])::(xk d,.me .arr d j.size a)::jC (AV.unme d) s.t,s.b⟩) else False
    | _=>False
 | _,_=>False
def zg (s:St) (dst:Option Nat) (mt:TypeId) (b:Nat) (c d:AV) (K:Nat->AV->Prop):Prop:=match dst,get T mt with
 | none,some a=>match a.flds with
  | [(_,f)]=>match get T f with
   | some i=>bif Nat.beq a.kind 9 then match nK i with
     | some (sk,n)=>∃ (k:Nat) (l:List (List Int×AV)) (key:List Int),(get s.t (xk k)=some (.me .ents k b (gp sk l))/\c=keyE sk key/\key.length=n/\∀ p∈l,p.1.length=n) /\
       d.pub.go1 fun v=>K k (.me .ents k b (gp sk (iM key v l)))
     | none=>False
    else False
   | none=>False
  | _=>False
 | _,_=>False
def ol (s:St) (mt:TypeId) (b:Nat) (c:AV) (ok:Bool) (K:AV->Prop):Prop:=match get T mt with
 | some a=>match a.flds with
  | [(_,d)]=>match get T d,get T a.elem with
   | some i,some j=>bif Nat.beq a.kind 9&&j.zero.isCell then match nK i with
     | some (sk,n)=>∃ (k:Nat) (l:List (List Int×AV)) (key:List Int) (g:Option AV),(get s.t (xk k)=some (.me .ents k b (gp sk l))/\c=keyE sk key/\key.length=n/\(∀ p∈l,p.1.length=n)/\mr key l=g)/\K (YN ok j.zero g)
     | none=>False
    else False
   | _,_=>False
  | _=>False
 | none=>False
def sI (mt:TypeId) (xs:List (List AV)) (b:AV) (ok:Bool) (K:AV->Prop):Prop:=match get T mt with
 | some a=>match a.flds with
  | [(_,c)]=>match get T c,get T a.elem with
   | some i,some j=>bif Nat.beq a.kind 9&&j.zero.isCell then match nK i with
     | some (sk,n)=>∃ (l:List (List Int×AV)) (key:List Int) (g:Option AV),(xs=gp sk l/\b=keyE sk key/\key.length=n/\(∀ p∈l,p.1.length=n)/\mr key l=g)/\K (YN ok j.zero g)
     | none=>False
    else False
   | _,_=>False
  | _=>False
 | none=>False
def qI (s:St) (t:TypeId) (k b off:Nat) (cs:List AV) (K:AV->Prop):Prop:=match get T t with
 | none=>False
 | some a=>match eS a cs with
  | some v=>K v
  | none=>match zH s k with
   | some (c,own)=>bif Nat.ble (lo k) off then (match eS a (own.drop (off - lo k)) with | some v=>c=b/\K v | none=>False) else False
   | none=>False
def td (s:St) (dst:Option Nat) (t:TypeId) (k b off:Nat) (v:AV) (K:Nat->AV->Prop):Prop:=match dst,get T t,v.cells? with
 | none,some f,some cs=>match zH s k with
  | none=>False
  | some (d,own)=>bif Nat.beq cs.length f.size&&(cs.all (fun c=>c.isCell)&&(Nat.ble (lo k) off&&(Nat.ble (off - lo k+cs.length) own.length&&Nat.blt 0 cs.length))) then d=b/\MZ (uj own (off - lo k) cs) fun a=>K k (.me .box k d [a]) else False
 | _,_,_=>False
def Dk (s:St) (dst:Option Nat) (t:TypeId) (k n:Nat) (lo hi a:Option AV) (K:St->Prop):Prop:=match get T t with
 | none=>False
 | some i=>match get T i.elem with
  | none=>False
  | some j=>match iH s k with
   | none=>False
   | some (sz,_)=>bif Nat.beq i.kind 3&&(Nat.beq j.size sz&&a.isNone) then jZ lo 0 fun l=>jZ hi n fun h=>l<=h/\h<=n/\fJ s dst (.me (.sub sz l) k (h - l) []) K else False
def WF (s:St) (dst:Option Nat) (n:List TypeId) (sz k h:Nat) (y:AV) (K:St->Prop):Prop:=match dst,n with
 | some d,[t,f]=>match get T t with
  | none=>False
  | some i=>match get T i.elem with
   | none=>False
   | some j=>match y with
    | .me (.sub c l) k' m _=>match iH s k with
     | none=>False
     | some (a,xs)=>bif Nat.beq i.kind 3&&(Nat.beq t f&&(Nat.beq sz a&&(Nat.beq c a&&(Nat.beq k k'&&(Nat.beq j.size a&&Nat.blt 0 a))))) then
       h+m<=xs.length/\K ⟨(d,.me .sl k (h+m) [])::(xk k,.me .arr k a (xs.take h++(xs.drop l).take m))::jC (AV.unme k) s.t,s.b⟩ else False
    | _=>False
 | _,_=>False
def WG (s:St) (dst:Option Nat) (h:List TypeId) (k n:Nat) (y:AV) (K:St->Prop):Prop:=match dst,h with
 | some d,[t,f]=>match get T t with
  | none=>False
  | some i=>match get T i.elem with
   | none=>False
   | some j=>match iH s k with
    | none=>False
    | some (sz,xs)=>match y with
     | .sl _ c a=>bif Nat.beq i.kind 3&&(Nat.beq t f&&(n0 j&&(Nat.blt 0 j.size&&Nat.beq j.size sz))) then szOK j.size c a (0<a.length/\gR (xs.length+a.length) j.bytes/\xs.length+a.length<=4611686018427387904 /\
       K ⟨(d,.me .sl k (n+a.length) [])::(xk k,.me .arr k sz (xs++a))::jC (AV.unme k) s.t,s.b⟩) else False
     | _=>False
 | _,_=>False
def Xi (s:St) (dst:Option Nat) (ty:TypeId) (op:Op) (K:St->Prop):Prop:=match op with
 | .indexAddr t x n=>match ev s x,ev s n with
  | .me .sl k len _,.int _ i=>iT T s dst t k len i K
  | .lit (.slice _ len cap),.int _ i=>∃ k b sz xs,(ev s x = .lit (.slice (some ⟨b,0,none⟩) len cap)/\get s.t (xk k)=some (.me (.row b cap) k sz xs)/\xs.length=len)/\iT T s dst t k len i K
  | _,_=>nu T C s dst ty op K
 | .fieldAddr t x f=>match ev s x with
  | .me (.ptr sz j) k i _=>oS T s dst t f sz j k i K
  | _=>nu T C s dst ty op K
 | .load t x=>match ev s x with
  | .me (.ptr sz j) k i _=>Oz T s dst t sz j k i K
  | .pin k b off cs=>qI T s t k b off cs fun v=>v.go fun v=>fJ s dst v K
  | _=>nu T C s dst ty op K
 | .lookup t m k ok=>match ev s m with
  | .lit (.map (some b))=>ol T s t b (ev s k) ok fun v=>v.go fun v=>fJ s dst v K
  | .mapv xs=>sI T t xs (ev s k) ok fun v=>v.go fun v=>fJ s dst v K
  | _=>False
 | .store t a x=>match ev s a with
  | .me (.ptr sz j) k i _=>Mf T s dst t sz j k i (ev s x) K
  | .pin _ _ _ _=>kC s [x] fun s=>(match ev s a with
   | .pin k b off _=>td T s dst t k b off (ev s x) fun k v=>qe k s.t=true/\K ⟨(xk k,v)::s.t,s.b⟩
   | _=>False)
  | _=>kC s [x] fun s=>nu T C s dst ty op K
 | .move _ | .assign _=>nu T C s dst ty op K
 | .makeMap _ none=>match dst with
  | some d=>∀ b,K ⟨(d,.lit (.map (some b)))::(xk d,.me .ents d b [])::jC (AV.unme d) s.t,s.b⟩
  | none=>False
 | .mapUpdate t m k x=>match ev s m with
  | .lit (.map (some b))=>zg T s dst t b (ev s k) (ev s x) fun k v=>qe k s.t=true/\K ⟨(xk k,v)::s.t,s.b⟩
  | _=>False
 | .insert t m k x=>match ev s m with
  | .lit (.map (some b))=>zg T s dst t b (ev s k) (ev s x) fun k v=>qe k s.t=true/\K ⟨(xk k,v)::s.t,s.b⟩
  | _=>False
 | .call { callee := .builtin .len,args:=args,argTypes:=c }=>match args.toList,c.toList with
  | [x],[t]=>match ev s x with
   | .me .sl _ n _=>match get T t with
    | some i=>bif Nat.beq i.kind 3 then fJ s dst (.int .i64 n) K else False
    | none=>False
   | .lit (.slice _ n _)=>match get T t with
    | some i=>bif Nat.beq i.kind 3 then fJ s dst (.int .i64 n) K else False
    | none=>False
   | _=>nu T C s dst ty op K
  | _,_=>nu T C s dst ty op K
 | .call { callee := .builtin .append,args:=args,argTypes:=c }=>match args.toList with
  | [x,y]=>kC s [y] fun s=>match ev s x with
   | .sl o _ xs=>match o with
    | .full=>nu T C s dst ty op K\/xs=[]/\Dm T s dst c.toList (ev s y) K
    | _=>nu T C s dst ty op K
   | .me g k n _=>match g with
    | .sub sz off=>bif Nat.beq off 0 then WF T s dst c.toList sz k n (ev s y) K else nu T C s dst ty op K
    | .sl=>WG T s dst c.toList k n (ev s y) K
    | _=>nu T C s dst ty op K
   | _=>nu T C s dst ty op K
  | _=>nu T C s dst ty op K
 | .slice t x lo hi h=>match ev s x with
  | .me .sl k n _=>(kC s [x] fun s=>nu T C s dst ty op K)\/Dk T s dst t k n (lo.map (ev s)) (hi.map (ev s)) (h.map (ev s)) K
  | _=>kC s op.operands.toList fun s=>nu T C s dst ty op K
 | op=>kC s op.operands.toList fun s=>nu T C s dst ty op K
end
def dn:List Nat->Nat->Bool
 | [],_=>false
 | d::r,k=>bif Nat.beq d k then true else dn r k
def P9:List Nat->Nat->List Nat
 | [],_=>[]
 | d::r,k=>bif Nat.beq d k then r else d::P9 r k
def gS (guards:List Nat) (dst:Option Nat) (s:St) (K:St->Prop):Prop:=
 match dst with
 | some d=>bif dn guards d then match s with
   | ⟨t,b⟩=>match get t d with
    | some (.bool v)=>(v=true->K ⟨(d,.bool true)::t,b⟩)/\(v=false->K ⟨(d,.bool false)::t,b⟩)
    | _=>K ⟨t,b⟩
  else Zz d s K
 | none=>goB s K
def jx (ops:List Oper) (j:Nat):Option Nat:=match qk ops j with | some o=>o.dst | none=>none
def dI (ops:List Oper):List Oper->List Nat
 | []=>[]
 | o::r=>match o.guard with
  | some (j,_)=>match jx ops j with | some d=>d::dI ops r | none=>dI ops r
  | none=>dI ops r
def j6 (all:List Oper) (s:St) (o:Oper):Nat:=
 match o.guard with
 | none=>0
 | some (j,want)=>match jx all j with
  | none=>2
  | some d=>match get s.t d with
   | some (.bool b)=>bif b==want then 0 else 1
   | some .undef=>1
   | _=>2
def yX (guards:List Nat) (o:Oper):Bool:=match o.op,o.dst with
 | .assign (.const (.slice none 0 0)),some d=>dn guards (1000000000+d)
 | _,_=>false
def Ao (guards:List Nat) (o:Oper):Bool:=match o.op,o.dst with
 | .call _,some d=>dn guards (3000000000+d)
 | _,_=>false
def AV.pubE:AV->AV
 | .me g k n xs => .me g k n xs
 | x=>x.pub
def yE:List AV->List Nat
 | []=>[]
 | .sl (.id k) _ _::r=>k::yE r
 | _::r=>yE r
def Xw:AV->List Nat
 | .me .box _ _ [own]=>yE own
 | _=>[]
def si:List (Nat×AV)->List Nat
 | []=>[]
 |(_,v)::r=>Xw v++si r
def ky:List (Nat×AV)->List Nat
 | []=>[]
 |(k,_)::r=>k::ky r
def gO (s:St):List Nat->Option (List (Nat×AV))
 | []=>some []
 | k::r=>match get s.t (xk k),gO s r with
  | some (.me g j n xs),some l=>bif Nat.beq j k&&iE g then some ((k,.me g j n xs)::l) else none
  | _,_=>none
def Cl:List (Nat×AV)->List (Nat×AV)
 | []=>[]
 |(k,v)::r=>(xk k,v)::Cl r
def AV.isRefX:AV->Bool
 | .me .sl _ _ _=>true
 | .me (.ptr _ _) _ _ _=>true
 | _=>false
def AV.unmeMany (x:AV):List Nat->AV
 | []=>x
 | k::r=>(bif Nat.ble 7000000 k&&x.isRefX then x else x.unme k).unmeMany r
def St.unmeMany (s:St) (a:List Nat):St:=⟨jC (fun x=>x.unmeMany a) s.t,s.b⟩
def acf (l:List Nat):Bool:=l.all fun k=>Nat.ble 5000000 k
def YH (N:List Nat):AV->Bool
 | .me .box _ _ _=>false
 | .me _ k _ _=>dn N k
 | _=>true
def Q8 (N I:List Nat) (L:List (Nat×AV)) (args:List AV):Bool:=(ky L).all (dn N)&&((si L).all (dn I)&&(acf I&&args.all (YH N)))
abbrev vV:=FuncId->List Nat->List Nat->List AV->List (Nat×AV)->AV->List (Nat×AV)->Prop
def C4 (E:vV) (s:St) (o:Oper) (K:List Nat->List Nat->List (Nat×AV)->AV->List (Nat×AV)->Prop):Prop:=match o.op with
 | .call call=>match call.callee with
  | .value f=>match ev s f with
   | .fn g=>∃ N I L r a,(gO s (ky L)=some L/\Q8 N I L (call.args.toList.map (ev s))=true/\E g N I ((call.args.toList.map fun x=>(ev s x).pubE)++[]) L r a)/\K N I L r a
   | .clo g cap=>∃ N I L r a,(gO s (ky L)=some L/\Q8 N I L (call.args.toList.map (ev s))=true/\E g N I ((call.args.toList.map fun x=>(ev s x).pubE)++cap) L r a)/\K N I L r a
   | _=>False
  | _=>False
 | _=>False
section
variable (T:eX) (C:FuncId->List AV->AV->Prop) (E:vV)
def YK (guards:List Nat) (o:Oper):Bool:=match o.op,o.dst with
 | .makeSlice _ _ _,some d=>dn guards (5000000000+d)
 | _,_=>false
def S7 (s:St) (dst:Option Nat) (op:Op) (K:St->Prop):Prop:=match op,dst with
 | .makeSlice t l c,some d=>match get T t with
  | some i=>match get T i.elem with
   | some j=>match ev s l,ev s c,j.zero.cells? with
    | .int _ l,.int _ c,some a=>bif Nat.beq i.kind 3&&(Nat.beq a.length j.size&&(a.all (fun c=>c.isCell)&&Nat.blt 0 j.size)) then
      0<=l/\l<=c/\gR c.toNat j.bytes/\c<=4611686018427387904/\K ⟨(d,.me .sl d l.toNat [])::(xk d,.me .arr d j.size (List.replicate l.toNat a))::jC (AV.unme d) s.t,s.b⟩ else False
    | _,_,_=>False
   | none=>False
  | none=>False
 | _,_=>False
def PQ (k b n cap:Nat):AV->AV
 | .me g k' a xs=>bif Nat.beq k k' then (match g with | .sl => .lit (.slice (some ⟨b,0,none⟩) n cap) | _ => .junk) else .me g k' a xs
 | x=>x
def Zr (s:St) (d:Nat) (K:St->Prop):Prop:=match get s.t d with
 | some (.me .sl k n _)=>match get s.t (xk k) with
  | some (.me .arr k' sz xs)=>bif Nat.beq k' k&&Nat.beq (lo k) 0 then ∀ b cap,(⟨(xk k,.me (.row b cap) k sz xs)::jC (PQ k b n cap) s.t,s.b⟩:St).go K else False
  | _=>False
 | _=>False
def aaI (guards:List Nat) (o:Oper):Option Nat:=match o.dst with
 | some d=>bif dn guards (7000000000+d) then some d else none
 | none=>none
def Xj (guards:List Nat) (s:St) (o:Oper) (K:St->Prop):Prop:=
 bif yX guards o then fJ s o.dst (.sl .full 0 []) K
 else bif Ao guards o then C4 E s o fun N I _ r a=>match (s.demMany I).unmeMany N with | ⟨t,b⟩=>(⟨Cl a++t,b⟩:St).go fun s=>r.go fun r=>fJ s o.dst r fun s=>gS guards o.dst s K
 else bif YK guards o then S7 T s o.dst o.op fun s=>D6 o.op s fun s=>gS guards o.dst s K
 else Xi T C s o.dst o.type o.op fun s=>D6 o.op s fun s=>gS guards o.dst s K
def HQ (guards:List Nat) (s:St) (o:Oper) (K:St->Prop):Prop:=match aaI guards o with
 | some d=>Xj T C E guards s o fun s=>Zr s d K
 | none=>Xj T C E guards s o K
def li (all:List Oper) (guards:List Nat):List Oper->St->(St->Prop)->Prop
 | [],s,K=>K s
 | o::rest,s,K=>match j6 all s o with
  | 0=>HQ T C E guards s o fun s=>li all guards rest s K
  | 1=>fJ s o.dst .undef fun s=>li all guards rest s K
  | _=>False
end
def z7:List Nat->List (Nat×AV)->List (Nat×AV)
 | _,[]=>[]
 | keep,(d,v)::r=>bif dn keep d then (d,v)::z7 (P9 keep d) r else z7 keep r
def Aa:List Nat->List (Nat×List AV)->List (Nat×List AV)
 | _,[]=>[]
 | seen,(d,v)::r=>bif dn seen d then Aa seen r else (d,v)::Aa (d::seen) r
def goN:List Nat->(List Nat->Prop)->Prop
 | [],K=>K []
 | d::r,K=>goN r fun r=>K (d::r)
theorem D0:∀ (l:List Nat) (K:List Nat->Prop),goN l K=K l
 | [],_=>rfl
 | _::r,K=>by rw [goN,D0 r]
def SX:List Nat->List (Nat×AV)->List Nat
 | keep,[]=>keep
 | keep,(d,_)::r=>bif Nat.ble 2000000000 d && !dn keep d then SX (d::keep) r else SX keep r
def z6:List Nat->List (Nat×AV)->(List (Nat×AV)->Prop)->Prop
 | _,[],K=>K []
 | keep,(d,v)::r,K=>bif dn keep d then v.go1 fun v=>goN (P9 keep d) fun keep=>z6 keep r fun t=>K ((d,v)::t) else z6 keep r K
def z8:List Nat->List (Nat×List AV)->(List (Nat×List AV)->Prop)->Prop
 | _,[],K=>K []
 | seen,(d,v)::r,K=>bif dn seen d then z8 seen r K else z8 (d::seen) r fun t=>K ((d,v)::t)
theorem wK:∀ (t:List (Nat×AV)) (keep:List Nat) (K:List (Nat×AV)->Prop),z6 keep t K=K (z7 keep t)
 | [],_,_=>rfl
 |(d,v)::r,keep,K=>by
  simp only [z6,z7]
  cases dn keep d with
  | true=>simp only [aP,oL,D0]; rw [wK r]
  | false=>simp only [bq]; rw [wK r]
theorem wL:∀ (t:List (Nat×List AV)) (seen:List Nat) (K:List (Nat×List AV)->Prop),z8 seen t K=K (Aa seen t)
 | [],_,_=>rfl
 |(d,v)::r,seen,K=>by
  simp only [z8,Aa]
  cases dn seen d with
  | true=>simp only [aP]; rw [wL r]
  | false=>simp only [bq]; rw [wL r]
def gt (keep:List Nat) (s:St) (K:St->Prop):Prop:=match s with
 | ⟨t,b⟩=>goN (SX keep t) fun keep=>z6 keep t fun t=>z8 [] b fun b=>K ⟨t,b⟩
open Go
structure d5 where
 cells:Nat->Nat->Option Value
 maps:Nat->Option (Array MapEntry×Nat)
instance:CoeFun d5 (fun _=>Nat->Nat->Option Value):=⟨d5.cells⟩
structure d5.sub (m:d5) (w:World):Prop where
 cell:∀ b o v,m b o=some v->w.cell? ⟨b,o,none⟩=some v
 map:∀ b x,m.maps b=some x->w.heap[b]?=some (.map x.1 x.2)
structure d5.le (m m':d5):Prop where
 cell:∀ b o v,m b o=some v->m' b o=some v
 map:∀ b x,m.maps b=some x->m'.maps b=some x
theorem d5.le.refl (m:d5):m.le m:=⟨fun _ _ _ h=>h,fun _ _ h=>h⟩
theorem d5.le.sub {m m':d5} {w} (h:m.le m') (k:m'.sub w):m.sub w:=⟨fun b o v g=>k.cell b o v (h.cell b o v g),fun b x g=>k.map b x (h.map b x g)⟩
theorem d5.le.trans {a b c:d5} (h:a.le b) (k:b.le c):a.le c:=⟨fun x y v g=>k.cell x y v (h.cell x y v g),fun x v g=>k.map x v (h.map x v g)⟩
def gu (P:Program):d5:=⟨fun b o=>match P.globals[b]? with | some g=>bif g.name == "math/bits.deBruijn64tab" then (Lib.deBruijn64tab[o]?).map fun n => .int .u8 n else none | none=>none,fun _=>none⟩
def eV (w:World) (b:Nat):Prop:=∃ c T,w.heap[b]?=some (.cells c T (0,0))
structure d5.News (m:d5) (B:Nat->Prop) (m':d5) (w:World):Prop where
 cell:∀ b o v,m' b o=some v->m b o=some v\/B b/\eV w b
 map:∀ b x,m'.maps b=some x->m.maps b=some x\/B b
def free (w0:World) (k:Nat):Prop:=w0.heap.size<=k\/w0.heap[k]?=some (.deferred none)
structure gV (w w':World):Prop where
 os:w'.os=w.os
 tape:w'.tape=w.tape
 output:w'.output=w.output
 size:w.heap.size<=w'.heap.size
 block:∀ k,¬ free w k->w'.heap[k]?=w.heap[k]?
theorem gV.step {w0 a b} (h:gV w0 a) (h1:b.os=a.os) (h2:b.tape=a.tape) (e:b.output=a.output) (c:a.heap.size<=b.heap.size) (d:∀ k,¬ free w0 k->b.heap[k]?=a.heap[k]?):gV w0 b:=⟨h1.trans h.os,h2.trans h.tape,e.trans h.output,bH h.size c,fun k hk=>(d k hk).trans (h.block k hk)⟩
structure VY (w0 a b:World):Prop where
 os:b.os=a.os
 tape:b.tape=a.tape
 output:b.output=a.output
 size:a.heap.size<=b.heap.size
 block:∀ k,¬ free w0 k->b.heap[k]?=a.heap[k]?
theorem gV.trans {w0 a b} (h:gV w0 a) (k:VY w0 a b):gV w0 b:=h.step k.os k.tape k.output k.size k.block
theorem jF {w0} {k} (h:¬ free w0 k):k<w0.heap.size:=pV fun a=>h (.inl a)
theorem nH {w0} {k b} (h:¬ free w0 k) (a:free w0 b):k≠b:=fun e=>h (e ▸ a)
theorem VY.of {w0 a b} {B} (h:RowKit.Below B a b) (c:w0.heap.size<=B):VY w0 a b:=⟨h.os,h.tape,h.output,h.size,fun k hk=>h.block k (dv (jF hk) c)⟩
theorem gV.alloc {w0 a} (h:gV w0 a) (b:w0.heap.size<=a.heap.size) (o):gV w0 (a.alloc o):=h.trans (.of ((RowKit.Below.refl _ a).alloc (ba _) o) b)
theorem gV.drew {w0 a} (h:gV w0 a):gV w0 a.drew:=h.trans ⟨rfl,rfl,rfl,ba _,fun _ _=>rfl⟩
theorem gV.refl (w):gV w w:=⟨rfl,rfl,rfl,ba _,fun _ _=>rfl⟩
theorem jQ {w0} {k} (h:w0.heap.size<=k):free w0 k := .inl h
def d5.with (m:d5) (f:Nat->Nat->Option Value):d5:=⟨f,m.maps⟩
def ll (es:Array MapEntry) (clock:Nat):Prop:=(∀ (i:Nat) (e:MapEntry),es[i]?=some e->e.born<clock)/\(∀ (i j:Nat) (e f:MapEntry),es[i]?=some e->es[j]?=some f->e.born=f.born->i=j)/\∀ (i j:Nat) (e f:MapEntry),es[i]?=some e->es[j]?=some f->e.key=f.key->i=j
inductive RD (m:d5):AV->Value->Prop
 | junk (v:Value):RD m .junk v
 | undef:RD m .undef Go.undef
 | int (k:IntKind) (n:Int):RD m (.int k n) (.int k n)
 | bool (b:Bool):RD m (.bool b) (.bool b)
 | str (s:ByteArray):RD m (.str s) (.string s)
 | lit (v:Value) (h:v.oneCell'=true) (h2:v.cells=#[v]):RD m (.lit v) v
 | fn (f:FuncId):RD m (.fn f) (.func (.func f) #[] #[])
 | clo (f:FuncId) (cap:List AV) (vs:Array Value) (hl:cap.length=vs.size) (h:∀ (i:Nat) (x:AV) (v:Value),cap[i]?=some x->vs[i]?=some v->RD m x v):RD m (.clo f cap) (.func (.func f) #[] vs)
 | agg (cs:List AV) (vs:Array Value) (hl:cs.length=vs.size) (d:∀ x∈cs,x.isCell=true) (h:∀ (i:Nat) (x:AV) (v:Value),cs[i]?=some x->vs[i]?=some v->RD m x v):RD m (.agg cs) (.agg vs)
 | tup (cs:List AV) (vs:Array Value) (hl:cs.length=vs.size) (h:∀ (i:Nat) (x:AV) (v:Value),cs[i]?=some x->vs[i]?=some v->RD m x v):RD m (.tup cs) (.tuple vs)
 | sl (o:Own) (sz:Nat) (xs:List (List AV)) (base:Option Addr) (len cap:Nat) (q:∀ k,o≠.id k) (hf:o = .full->cap=len) (hl:xs.length=len) (d:len<=cap)
   (p:∀ x∈xs,x.length=sz) (a:∀ x∈xs,∀ c∈x,AV.isCell c=true) (b off:Nat) (l:0<len->base=some ⟨b,off,none⟩) (g:Nat->Nat->Value)
   (hm:∀ (i:Nat) (x:List AV) (j:Nat) (c:AV),xs[i]?=some x->x[j]?=some c->m b (off+i*sz+j)=some (g i j)) (h:∀ (i:Nat) (x:List AV) (j:Nat) (c:AV),xs[i]?=some x->x[j]?=some c->RD m c (g i j)):RD m (.sl o sz xs) (.slice base len cap)
 | ref (cs:List AV) (b off:Nat) (d:∀ x∈cs,x.isCell=true) (g:Nat->Value) (hm:∀ (i:Nat) (c:AV),cs[i]?=some c->m b (off+i)=some (g i)) (h:∀ (i:Nat) (c:AV),cs[i]?=some c->RD m c (g i)):RD m (.ref cs) (.pointer (some ⟨b,off,none⟩))
 | pin (k b off:Nat) (cs:List AV) (d:∀ x∈cs,x.isCell=true) (g:Nat->Value) (hm:∀ (i:Nat) (c:AV),cs[i]?=some c->m b (off+i)=some (g i)) (h:∀ (i:Nat) (c:AV),cs[i]?=some c->RD m c (g i)):RD m (.pin k b off cs) (.pointer (some ⟨b,off,none⟩))
 | mapv (xs:List (List AV)) (b:Nat) (es:Array MapEntry) (clock:Nat) (hm:m.maps b=some (es,clock)) (l:ll es clock) (hl:xs.length=es.size) (h2:∀ x∈xs,x.length=2)
   (hk:∀ (i:Nat) (x:List AV) (e:MapEntry) (k:AV),xs[i]?=some x->es[i]?=some e->x[0]?=some k->RD m k e.key) (hv:∀ (i:Nat) (x:List AV) (e:MapEntry) (k:AV),xs[i]?=some x->es[i]?=some e->x[1]?=some k->RD m k e.val):RD m (.mapv xs) (.map (some b))
theorem RD.mono {m m'} (hm:m.le m') {x} {v} (h:RD m x v):RD m' x v:=by
 induction h with
 | junk v=>exact .junk v
 | undef=>exact .undef
 | int k n=>exact .int k n
 | bool b=>exact .bool b
 | str s=>exact .str s
 | lit v h h2=>exact .lit v h h2
 | fn f=>exact .fn f
 | clo f cap vs hl _ a=>exact .clo f cap vs hl a
 | agg cs vs hl l _ a=>exact .agg cs vs hl l a
 | tup cs vs hl _ a=>exact .tup cs vs hl a
 | sl o sz xs base len cap u hf hl l r e b off p g d _ a=>exact .sl o sz xs base len cap u hf hl l r e b off p g (fun i x j c h1 h2=>hm.cell _ _ _ (d i x j c h1 h2)) a
 | ref cs b off l g d _ a=>exact .ref cs b off l g (fun i c h1=>hm.cell _ _ _ (d i c h1)) a
 | pin k b off cs l g d _ a=>exact .pin k b off cs l g (fun i c h1=>hm.cell _ _ _ (d i c h1)) a
 | mapv xs b es clock d p hl h2 _ _ t q=>exact .mapv xs b es clock (hm.map _ _ d) p hl h2 t q
theorem RD.one {m} {x} {v} (h:RD m x v) (a:x.isCell=true):v.oneCell'=true/\v.cells=#[v]:=by
 cases h <;> first | (simp [AV.isCell] at a; done) | exact ⟨rfl,rfl⟩ | exact ⟨by assumption,by assumption⟩
structure dM where
 ρ:Nat->Nat
 τ:Nat->Value
 σ:Nat->Nat
 m:d5
 x:Nat->Option (Nat×Obj)
 xn:Nat->Nat×Nat
def kY:Value->Bool
 | .slice _ len cap=>decide (len<cap)
 | _=>false
def RO (c:dM):AV->Value->Prop
 | .sl (.id k) sz xs,v=>v=c.τ k/\(kY v=true->c.σ k=sz/\0<sz)/\RD c.m (.sl .no sz xs) v
 | x,v=>RD c.m x v
def RX (c:dM) (g:Rh) (k n:Nat) (xs:List (List AV)) (v:Value):Prop:=match g with
 | .sl=>∃ b cells T cap,c.x k=some (b,.cells cells T (0,0))/\v = .slice (some ⟨b,0,none⟩) n cap/\(n=(c.xn k).1/\cap=(c.xn k).2)/\n<=cap
 | .ptr sz j=>∃ b cells T,c.x k=some (b,.cells cells T (0,0))/\v = .pointer (some ⟨b,n*sz+j,none⟩)
 | .arr=>∃ b cells T,c.x k=some (b,.cells cells T (0,0))/\(xs.length=(c.xn k).1/\(c.xn k).2*n<=cells.size)/\xs.length*n<=cells.size/\(∀ r∈xs,r.length=n/\∀ y∈r,y.isCell=true) /\
   ∀ (i:Nat) (r:List AV) (j:Nat) (y:AV),xs[i]?=some r->r[j]?=some y->∃ u,cells[i*n+j]?=some u/\RD c.m y u
 | .row b cap=>∃ cells T,c.x k=some (b,.cells cells T (0,0))/\(xs.length=(c.xn k).1/\cap=(c.xn k).2/\xs.length<=cap/\cap*n<=cells.size)/\xs.length*n<=cells.size/\(∀ r∈xs,r.length=n/\∀ y∈r,y.isCell=true) /\
   ∀ (i:Nat) (r:List AV) (j:Nat) (y:AV),xs[i]?=some r->r[j]?=some y->∃ u,cells[i*n+j]?=some u/\RD c.m y u
 | .sub sz l=>∃ b cells T off cap,c.x k=some (b,.cells cells T (0,0))/\v = .slice (some ⟨b,off,none⟩) n cap/\(off=l*sz\/n=0/\off=0)/\l+n<=(c.xn k).1/\((c.xn k).1<=l+cap/\l+cap<=(c.xn k).2)
 | .mp=>∃ b es clock,c.x k=some (b,.map es clock)/\v = .map (some b)
 | .ents=>∃ es clock,c.x k=some (n,.map es clock)/\ll es clock/\xs.length=es.size/\(∀ x∈xs,x.length=2) /\
   (∀ (i:Nat) (x:List AV) (e:MapEntry) (y:AV),xs[i]?=some x->es[i]?=some e->x[0]?=some y->RD c.m y e.key)/\∀ (i:Nat) (x:List AV) (e:MapEntry) (y:AV),xs[i]?=some x->es[i]?=some e->x[1]?=some y->RD c.m y e.val
 | .box=>∃ cells T own,c.x k=some (n,.cells cells T (0,0))/\xs=[own]/\cells.size=lo k+own.length/\(∀ y∈own,y.isCell=true)/\∀ (i:Nat) (y:AV) (u:Value),own[i]?=some y->cells[lo k+i]?=some u->RO c y u
def fD (c:dM):AV->Value->Prop
 | .me g k n xs,v=>RX c g k n xs v
 | .loc d off,v=>v = .pointer (some ⟨c.ρ d,off,none⟩)
 | .sl (.id k) sz xs,v=>v=c.τ k/\(kY v=true->c.σ k=sz/\0<sz)/\RD c.m (.sl .no sz xs) v
 | x,v=>RD c.m x v
def RC (c:dM):AV->Value->Prop
 | .agg cs,v=>∃ vs:Array Value,v = .agg vs/\cs.length=vs.size/\(∀ x∈cs,x.isCell=true)/\∀ (i:Nat) (x:AV) (u:Value),cs[i]?=some x->vs[i]?=some u->fD c x u
 | x,v=>fD c x v
structure dM.le (c c':dM):Prop where
 m:c.m.le c'.m
 ρ:c'.ρ=c.ρ
 τ:c'.τ=c.τ
 σ:c'.σ=c.σ
 x:c'.x=c.x
 xn:c'.xn=c.xn
theorem dM.le.refl (c:dM):c.le c:=⟨.refl _,rfl,rfl,rfl,rfl,rfl⟩
theorem RO.mono {c c'} (e:c'.τ=c.τ) (d:c'.σ=c.σ) (hm:c.m.le c'.m) {x} {v} (r:RO c x v):RO c' x v:=by
 cases x with
 | sl o sz xs=>
  cases o with
  | id k=>obtain ⟨r1,a,b⟩:=r; exact ⟨by rw [e]; exact r1,by rw [d]; exact a,b.mono hm⟩
  | no=>exact RD.mono hm (show RD c.m _ v from r)
  | full=>exact RD.mono hm (show RD c.m _ v from r)
 | _=>exact RD.mono hm (show RD c.m _ v from r)
theorem RX.mono {c c'} (hx:c'.x=c.x) (h:c'.xn=c.xn) (A:c'.τ=c.τ) (z:c'.σ=c.σ) (hm:c.m.le c'.m) {g} {k n} {xs} {v} (r:RX c g k n xs v):RX c' g k n xs v:=by
 cases g with
 | box=>
  obtain ⟨cells,T,own,r1,f,a,d,p⟩:=r;exact ⟨cells,T,own,by rw [hx]; exact r1,f,a,d,fun i y u h1 h2=>(p i y u h1 h2).mono A z hm⟩
 | sl=>grind [RX]
 | ptr sz j=>simp only [RX,hx] at r ⊢; exact r
 | arr=>
  obtain ⟨b,cells,T,r1,r0,f,a,d⟩:=r;exact ⟨b,cells,T,by rw [hx]; exact r1,by rw [h]; exact r0,f,a,fun i r j y h1 h2=>let ⟨u,o,t⟩:=d i r j y h1 h2; ⟨u,o,t.mono hm⟩⟩
 | row b cap=>
  obtain ⟨cells,T,r1,r0,f,a,d⟩:=r;exact ⟨cells,T,by rw [hx]; exact r1,by rw [h]; exact r0,f,a,fun i r j y h1 h2=>let ⟨u,o,t⟩:=d i r j y h1 h2; ⟨u,o,t.mono hm⟩⟩
 | mp=>simp only [RX,hx] at r ⊢; exact r
 | sub sz l=>grind [RX]
 | ents=>
  obtain ⟨es,clock,r1,f,a,d,p,w⟩:=r;exact ⟨es,clock,by rw [hx]; exact r1,f,a,d,fun i x e y h1 h2 q=>(p i x e y h1 h2 q).mono hm,fun i x e y h1 h2 q=>(w i x e y h1 h2 q).mono hm⟩
theorem fD.mono {c c'} (h:c.le c') {x} {v} (r:fD c x v):fD c' x v:=by
 cases x with
 | me g k n xs=>exact RX.mono h.x h.xn h.τ h.σ h.m r
 | loc d off=>simp only [fD] at r ⊢; rw [h.ρ]; exact r
 | sl o sz xs=>
  cases o with
  | id k=>obtain ⟨r1,b,a⟩:=r; exact ⟨by rw [h.τ]; exact r1,by rw [h.σ]; exact b,a.mono h.m⟩
  | no=>exact RD.mono h.m (show RD c.m _ v from r)
  | full=>exact RD.mono h.m (show RD c.m _ v from r)
 | _=>exact RD.mono h.m (show RD c.m _ v from r)
theorem eD {c} {x} {v} (h:∀ cs,x≠.agg cs):RC c x v↔fD c x v:=by
 cases x with
 | agg cs=>exact absurd rfl (h cs)
 | _=>exact Iff.rfl
theorem RC.mono {c c'} (h:c.le c') {x} {v} (r:RC c x v):RC c' x v:=by
 cases x with
 | agg cs=>obtain ⟨vs,r1,b,e,d⟩:=r; exact ⟨vs,r1,b,e,fun i x u h1 h2=>(d i x u h1 h2).mono h⟩
 | _=>exact (eD (by intro cs a; cases a)).2 (fD.mono h ((eD (by intro cs a; cases a)).1 r))
theorem fD.of_RD {c} {x} {v} (h:RD c.m x v):fD c x v:=by
 cases h with
 | sl o sz xs base len cap p hf hl e j a b off l g d i=>
  cases o with
  | id k=>exact absurd rfl (p k)
  | no=>exact .sl _ _ _ _ _ _ p hf hl e j a b off l g d i
  | full=>exact .sl _ _ _ _ _ _ p hf hl e j a b off l g d i
 | junk v=>exact .junk v
 | undef=>exact .undef
 | int k n=>exact .int k n
 | bool b=>exact .bool b
 | str s=>exact .str s
 | lit v h h2=>exact .lit v h h2
 | fn f=>exact .fn f
 | clo f cap vs hl h=>exact .clo f cap vs hl h
 | agg cs vs hl e h=>exact .agg cs vs hl e h
 | tup cs vs hl h=>exact .tup cs vs hl h
 | ref cs b off e g d i=>exact .ref cs b off e g d i
 | pin k b off cs e g d i=>exact .pin k b off cs e g d i
 | mapv xs b es clock d l hl h2 hk hv=>exact .mapv xs b es clock d l hl h2 hk hv
theorem RC.of_RD {c} {x} {v} (h:RD c.m x v):RC c x v:=by
 cases x with
 | agg cs=>cases h with | agg _ vs hl b a=>exact ⟨vs,rfl,hl,b,fun i x u h1 h2 => .of_RD (a i x u h1 h2)⟩
 | _=>grind [eD,fD.of_RD]
theorem RD.no {m} {o} {sz} {xs} {v} (h:RD m (.sl o sz xs) v):RD m (.sl .no sz xs) v:=by
 cases h with
 | sl _ _ _ base len cap j hf hl i c a b off e g f d=>exact .sl _ _ _ _ _ _ (by intro k hk; cases hk) (by intro hk; cases hk) hl i c a b off e g f d
theorem fD.sl_no {c} {o} {sz} {xs} {v} (h:fD c (.sl o sz xs) v):RD c.m (.sl .no sz xs) v:=by
 cases o with
 | id k=>exact h.2.2
 | no=>exact RD.no h
 | full=>exact RD.no h
theorem fD.pub {c} {x} {v} (h:fD c x v):RD c.m x.pub1 v:=by
 cases x with
 | loc d off=>exact .junk v
 | me g k n xs=>exact .junk v
 | sl o sz xs=>
  cases o with
  | id k=>exact h.2.2
  | no=>exact h
  | full=>exact h
 | _=>exact h
theorem fQ {x:AV} (h:x.isCell=true):x.pub1.isCell=true:=by
 cases x with
 | sl o sz xs=>cases o <;> rfl
 | _=>first | exact h | (simp [AV.isCell] at h)
theorem RC.pub {c} {x} {v} (h:RC c x v):RD c.m x.pub v:=by
 cases x with
 | agg cs=>
  obtain ⟨vs,rfl,h2,b,a⟩:=h;refine .agg _ vs (by simpa using h2) (fun y hy=>?_) (fun i y u h1 h2=>?_)
  ·obtain ⟨z,hz,rfl⟩:=bp.1 hy;exact fQ (b z hz)
  ·rw [aT] at h1;obtain ⟨z,hz,rfl⟩:=aA.1 h1;exact (a i z u hz h2).pub
 | tup vs=>exact h
 | _=>exact fD.pub ((eD (by intro cs d; cases d)).1 h)
theorem fD.one {c} {x} {v} (h:fD c x v) (a:x.isCell=true):v.oneCell'=true/\v.cells=#[v]:=by
 cases x with
 | loc d off=>simp [AV.isCell] at a
 | me g k n xs=>simp [AV.isCell] at a
 | sl o sz xs=>
  cases o with
  | id k=>exact RD.one h.2.2 rfl
  | no=>exact RD.one (show RD c.m _ v from h) rfl
  | full=>exact RD.one (show RD c.m _ v from h) rfl
 | _=>exact RD.one (show RD c.m _ v from h) a
theorem RC.cells {c} {x} {v} {cs} (h:RC c x v) (a:x.cells?=some cs) (b:∀ y∈cs,y.isCell=true) :
  cs.length=v.cells.size/\∀ (i:Nat) (y:AV) (u:Value),cs[i]?=some y->v.cells[i]?=some u->fD c y u:=by
 cases x with
 | agg ds=>
  simp only [AV.cells?,aB] at a;subst a;obtain ⟨vs,rfl,h2,f,e⟩:=h;exact ⟨h2,e⟩
 | junk=>cases a
 | undef=>cases a
 | tup vs=>cases a
 | loc d off=>cases a
 | me g k n xs=>cases a
 | int _ _ | bool _ | str _ | lit _ | fn _ | clo _ _ | sl _ _ _ | ref _ | mapv _ | pin _ _ _ _=>
  simp only [AV.cells?,aB] at a;subst a;have h:=(eD (by intro cs a; cases a)).1 h;have h1:=fD.one h rfl;grind
structure cr where
 P:Program
 F:Fence
 n:Nat
 w0:World
 m0:d5
 nt:Nat
structure cr.OK (Γ:cr):Prop where
 fn:∀ f,Γ.F.fn f
 depth:Γ.F.depth=none
 alive:Γ.F.alive=false
 mixed:Γ.P.follows .mixedOrders=true
 gm:(gu Γ.P).le Γ.m0
 gw:(gu Γ.P).sub Γ.w0
def lH:Value->Option Nat
 | .slice (some a) len cap=>if len<cap then some a.block else none
 | _=>none
def dq (c:dM) (k:Nat):Option Nat:=lH (c.τ k)
def np (B:Nat->Prop) (v:Value):Prop:=v = .slice none 0 0\/∃ base len cap,v = .slice base len cap/\(base=none->len=cap)/\∀ a,base=some a->0<len->a=⟨a.block,0,none⟩/\B a.block
def zN (w0:World) (k g:Nat):Prop:=w0.heap.size<=g\/5000000<=k/\w0.heap[g]?=some (.deferred none)
theorem zN.free {w0} {k g} (h:zN w0 k g):free w0 g:=h.imp id And.right
theorem TG {w0} {k g} (h:w0.heap.size<=g):zN w0 k g := .inl h
def sfree (w0:World) (k g:Nat):Prop:=w0.heap.size<=g\/5000000<=k
theorem zN.sfree {w0:World} {k g:Nat} (h:zN w0 k g):sfree w0 k g:=h.imp id And.left
theorem Tp {w0:World} {k g:Nat} (h:w0.heap.size<=g):sfree w0 k g := .inl h
structure abo (Γ:cr) (c:dM) (bx:List (Nat×List AV)) (w:World) (k:Nat):Prop where
 blk:∀ g,dq c k=some g->∃ len cap T,∃ cells:Array Value,c.τ k = .slice (some ⟨g,0,none⟩) len cap/\w.heap[g]?=some (.cells cells T (0,0))/\cells.size=cap*c.σ k/\(∀ o,len*c.σ k<=o->c.m g o=none)/\zN Γ.w0 k g
 shape:np (sfree Γ.w0 k) (c.τ k)
 box:∀ g d cs,dq c k=some g->get bx d=some cs->cs≠[]->c.ρ d≠g
 apart:∀ g j,dq c k=some g->dq c j=some g->j=k
def te:Obj->Bool
 | .cells .. | .map .. => true
 | _=>false
def DV:Option Obj->Bool
 | some (.mapIter ..)=>true
 | _=>false
structure XOK (Γ:cr) (c:dM) (bx:List (Nat×List AV)) (w:World) (k b:Nat) (o:Obj):Prop where
 new:free Γ.w0 b
 obj:w.heap[b]?=some o
 kept:te o=true
 mem:∀ i,lo k<=i->c.m b i=none
 map:c.m.maps b=none
 box:∀ d cs,get bx d=some cs->cs≠[]->c.ρ d≠b
 own:∀ j,dq c j≠some b
 inj:∀ j o',c.x j=some (b,o')->j=k
structure WI (Γ:cr) (c:dM) (bx:List (Nat×List AV)) (w:World):Prop where
 ext:gV Γ.w0 w
 sub:c.m.sub w
 le0:Γ.m0.le c.m
 new:Γ.m0.News (free Γ.w0) c.m w
 box:∀ d cs,get bx d=some cs->cs≠[]->free Γ.w0 (c.ρ d)/\(∀ o,c.m (c.ρ d) o=none)/\(∀ x∈cs,x.isCell=true) /\
  ∃ (vs:Array Value) (T:TypeId),w.heap[c.ρ d]?=some (.cells vs T (0,0))/\cs.length=vs.size/\∀ (i:Nat) (x:AV) (v:Value),cs[i]?=some x->vs[i]?=some v->fD c x v
 inj:∀ d e cs a,get bx d=some cs->get bx e=some a->cs≠[]->a≠[]->c.ρ d=c.ρ e->d=e
 own:∀ k,abo Γ c bx w k
 xo:∀ k b o,c.x k=some (b,o)->XOK Γ c bx w k b o
def uc (o:Obj):Prop:=∀ c T fr,o = .cells c T fr->fr=(0,0)
structure jk (w w':World):Prop where
 drawn:w.drawn<=w'.drawn
theorem jk.refl (w):jk w w:=⟨ba _⟩
theorem jk.trans {a b c:World} (h:jk a b) (k:jk b c):jk a c:=⟨bH h.drawn k.drawn⟩
theorem jk.drew (w):jk w w.drew:=⟨Nat.le_succ _⟩
theorem jk.alloc (w:World) {o:Obj} (a:uc o):jk w (w.alloc o):=⟨ba _⟩
theorem jk.putObj (w:World) (r:Nat) {o:Obj} (a:uc o):jk w (w.putObj r o):=⟨ba _⟩
theorem el (c) (T):uc (.cells c T (0,0)):=fun _ _ _ h=>by cases h; rfl
theorem xz {w:World} {b:Nat} (h:eV w b) (o:Obj):eV (w.alloc o) b:=by
 obtain ⟨c,T,h⟩:=h;exact ⟨c,T,(RowKit.Below.heap_alloc w o b (aX.1 h).1).trans h⟩
theorem xy {w w':World} {b:Nat} (h:eV w b) (a:RowKit.Below w.heap.size w w'):eV w' b:=by
 obtain ⟨c,T,h⟩:=h;exact ⟨c,T,(a.block _ (aX.1 h).1).trans h⟩
theorem oZ {w:World} {b r:Nat} (h:eV w b) {p:Obj} (a:w.heap[r]?=some p) (d:∀ c T,p≠.cells c T (0,0)) (o:Obj):eV (w.putObj r o) b:=by
 obtain ⟨c,T,h⟩:=h;refine ⟨c,T,?_⟩;rw [dg (fun e=>by grind)]; exact h
theorem d5.News.keep {m m':d5} {B:Nat->Prop} {w w':World} (h:m.News B m' w) (hk:∀ b,eV w b->eV w' b):m.News B m' w':=
 ⟨fun b o v hv=>(h.cell b o v hv).imp id fun ⟨h1,h2⟩=>⟨h1,hk b h2⟩,h.map⟩
structure NC (w w':World):Prop where
 size:w.heap.size<=w'.heap.size
 same:∀ (b:Nat) (o:Obj),w.heap[b]?=some o->te o=false->w'.heap[b]?=some o
 more:jk w w'
 soft:∀ b,eV w b->eV w' b
theorem NC.refl (w):NC w w:=⟨ba _,fun _ _ h _=>h,.refl _,fun _ h=>h⟩
theorem NC.trans {a b c:World} (h:NC a b) (k:NC b c):NC a c:=⟨bH h.size k.size,fun x o g e=>k.same x o (h.same x o g e) e,h.more.trans k.more,fun b d=>k.soft b (h.soft b d)⟩
theorem CJ {o:Obj} (h:te o=true):DV (some o)=false:=by cases o <;> first | rfl | cases h
def la (a:List Nat):List Deferred:=a.map fun D=>{ target := .collected D,args:=#[] }
structure ef (Γ:cr) (s:St) (a:Act) (w:World):Prop where
 ex:∃ c,WI Γ c s.b w/\∀ d x,get s.t d=some x->RC c x (a.tmps.getD d Go.undef)
 size:a.tmps.size=Γ.nt
 defers:∃ e:List Nat,a.defers=la e/\e.Nodup/\∀ D∈e,w.heap[D]?=some (.deferred (some []))/\Γ.w0.heap.size<=D
 rnd:∀ l,Γ.F.round=some l->∃ r,w.heap[l]?=some (.loop r)
def eJ:List Oper->List Nat
 | []=>[]
 | o::r=>o.dst.toList++eJ r
def p0:Code->List Nat
 | .region _ ops _=>eJ ops.toList
 | .seq a b=>p0 a++p0 b
 | .cond _ a b=>p0 a++p0 b
 | .block _ c=>p0 c
 | .loop c=>p0 c
 | .scope c=>p0 c
 | .rangeFunc _ _ _ _=>[1000000000]
 | _=>[]
def vw (a:Act) (d:Nat):List Deferred×Value:=if d=1000000000 then (a.defers,Go.undef) else ([],a.tmps.getD d Go.undef)
def FT (ds:List Nat) (a b:Act):Prop:=∀ d,d ∉ ds->vw b d=vw a d
theorem FT.tmps {ds:List Nat} {a b:Act} (h:FT ds a b) {d:Nat} (c:d ∉ ds) (e:d≠1000000000):b.tmps.getD d Go.undef=a.tmps.getD d Go.undef:=by
 have:=h d c;simp only [vw,aY e,ew] at this;exact this.2
theorem FT.defers {ds:List Nat} {a b:Act} (h:FT ds a b) (c:1000000000 ∉ ds):b.defers=a.defers:=by
 have:=h _ c;simp only [vw,cR,ew] at this;exact this.1
theorem FT.refl (ds) (a):FT ds a a:=fun _ _=>rfl
theorem FT.trans {ds:List Nat} {a b c:Act} (h:FT ds a b) (k:FT ds b c):FT ds a c:=fun d e=>(k d e).trans (h d e)
theorem FT.mono {ds es:List Nat} {a b:Act} (h:FT ds a b) (e:∀ d∈ds,d∈es):FT es a b:=fun d c=>h d fun f=>c (e d f)
theorem FT.put {a b:Act} {dst:Option Nat} (h:∃ v,b=a.put dst v):FT dst.toList a b:=by
 obtain ⟨v,rfl⟩:=h;intro d c
 cases dst with
 | none=>rfl
 | some k=>
  have:k≠d:=fun e=>c (by simp [e]);simp only [vw,Act.put,aJ,SV this]
def SP (Γ:cr) (s:St) (c:Code) (K:Exit->St->Prop):Prop:=
 ∀ a w,ef Γ s a w->c.wpIn Γ.F Γ.n Γ.P (fun e b w'=>NC w w'/\FT (p0 c) a b/\∃ s',ef Γ s' b w'/\K e s') a w
structure ar (P:Program) (f:FuncId) (args:List AV) (r:AV):Prop where
 enters:∀ (args:Array Value) (w:World),(callFunc f args).run P w = .ok (.enter f args) w
 runs:∀ (m:d5) (w:World) (vs:List Value),m.sub w->(gu P).le m->args.length=vs.length->(∀ (i:Nat) (x:AV) (v:Value),args[i]?=some x->vs[i]?=some v->RD m x v) ->
  Calls P f vs.toArray w fun e w'=>∃ v m',e = .returned v/\RD m' r v/\m.le m'/\d5.sub m' w'/\RowKit.Below w.heap.size w w'/\m.News (w.heap.size<=·) m' w'/\jk w w'
open Go
theorem RC.int {c} {k} {n} {v} (h:RC c (.int k n) v):v = .int k n:=by cases (show RD c.m _ _ from h); rfl
theorem RC.bool {c} {b} {v} (h:RC c (.bool b) v):v = .bool b:=by cases (show RD c.m _ _ from h); rfl
theorem RC.fn {c} {f} {v} (h:RC c (.fn f) v):v = .func (.func f) #[] #[]:=by cases (show RD c.m _ _ from h); rfl
theorem RC.loc {c} {d off} {v} (h:RC c (.loc d off) v):v = .pointer (some ⟨c.ρ d,off,none⟩):=h
theorem eC {c} (k) (n):RC c (.int k n) (.int k n):=RD.int k n
theorem fc {c} (b):RC c (.bool b) (.bool b):=RD.bool b
section
variable {Γ:cr} {o:Oper} {a:Act} {w w':World} {next:Act->World->Prop} {Q:Exit->Act->World->Prop}
theorem cX (d:Γ.OK) (b:∀ c,o.op≠.defer c) {v} (h:(execOp a.eval o).run Γ.P w = .ok (.value v) w') (e:next (a.put o.dst v) w'):o.wpIn Γ.F Γ.n Γ.P a w next Q:=by
 refine ⟨fun f _=>d.fn f,?_⟩;rw [kW _ _ _ b,h];exact e
theorem mM (d:Γ.OK) (b:∀ c,o.op≠.defer c) (h:(execOp a.eval o).run Γ.P w = .ok .skip w') (e:next (a.put o.dst Go.undef) w'):o.wpIn Γ.F Γ.n Γ.P a w next Q:=by
 refine ⟨fun f _=>d.fn f,?_⟩;rw [kW _ _ _ b,h];exact e
end
section
variable {T:eX} {P:Program} (hT:T.OK P)
include hT
theorem eo {t} {i} (g:get T t=some i):∃ j d,P.info? t=some j/\P.underlying t=some d/\TI.of P t=some i:=by
 have h:=hT.get g;grind [TI.of]
theorem eU {t} {i} (g:get T t=some i) (w):(sizeOf t).run P w = .ok i.size w:=by
 obtain ⟨j,d,h1,h2,b⟩:=eo hT g;simp only [TI.of,h1,h2,aB] at b;simp [sizeOf,typeInfo,h1,<- b,go_sem]
theorem oX {t} {i} (g:get T t=some i) (hk:i.kind=1):∃ b,P.underlying t=some (.struct b)/\i.flds=b.toList.map fun f=>(f.offset,f.type):=by
 obtain ⟨j,d,h1,h2,c⟩:=eo hT g;simp only [TI.of,h1,h2,aB] at c;grind
theorem ld {t} {i} (g:get T t=some i) (hk:i.kind=2):P.underlying t=some (.array i.arr i.elem):=by
 obtain ⟨j,d,h1,h2,b⟩:=eo hT g;grind [TI.of,Option.some.injEq]
theorem ee {t} {i} (g:get T t=some i) (hk:i.kind=3):P.underlying t=some (.slice i.elem):=by
 obtain ⟨j,d,h1,h2,b⟩:=eo hT g;grind [TI.of,Option.some.injEq]
theorem OC {t} {i} (g:get T t=some i) (hk:i.kind=4):P.underlying t=some (.int i.ik):=by
 obtain ⟨j,d,h1,h2,b⟩:=eo hT g;grind [TI.of,Option.some.injEq]
theorem Ia {t} {i} (g:get T t=some i) (hk:i.kind=5):P.underlying t=some .bool:=by
 obtain ⟨j,d,h1,h2,b⟩:=eo hT g;grind [TI.of,Option.some.injEq]
theorem H9 {t} {i} (g:get T t=some i) (hk:i.kind=8):∃ a b c,P.underlying t=some (.func a b c):=by
 obtain ⟨j,d,h1,h2,e⟩:=eo hT g;grind [TI.of,Option.some.injEq]
theorem OD {t} {i} (g:get T t=some i) (w):(isAgg t).run P w = .ok (Nat.beq i.kind 1||Nat.beq i.kind 2) w:=by
 obtain ⟨j,d,h1,h2,b⟩:=eo hT g;simp only [TI.of,h1,h2,aB] at b;subst b;cases d <;> simp [isAgg,underlying,h2,go_sem] <;> exact ⟨rfl,rfl⟩
end
theorem fu (b off j):(⟨b,off,none⟩:Addr).add j=⟨b,off+j,none⟩:=by unfold Addr.add; split <;> simp_all
theorem jY {T:eX} {P} (hT:T.OK P) {t} {i} (g:get T t=some i) {c} {w} {b off} {cells} {vals:List Value} (hlen:cells.length=vals.length)
  (d:∀ x∈cells,x.isCell=true) (l:∀ (j:Nat) (x:AV) (v:Value),cells[j]?=some x->vals[j]?=some v->fD c x v)
  (hm:∀ (j:Nat) (v:Value),vals[j]?=some v->w.cell? ⟨b,off+j,none⟩=some v) {x} (h:eS i cells=some x) :
  ∃ v,(loadVar t ⟨b,off,none⟩).run P w = .ok v w/\RC c x v:=by
 unfold eS at h;have e:=OD hT g w
 cases hk:(Nat.beq i.kind 1||Nat.beq i.kind 2) with
 | true=>
  rw [hk] at h e;simp only [aP] at h
  cases f:Nat.ble i.size cells.length with
  | false=>rw [f] at h; cases h
  | true=>
   rw [f] at h;simp only [aP,aB] at h;have m:i.size<=cells.length:=ah f
   have hl:=run_loadCells_list (P:=P) w ⟨b,off,none⟩ (vals.take i.size) (fun j v hv=>by
    grind [fu])
   rw [di,rF am] at hl;refine ⟨.agg (vals.take i.size).toArray,?_,?_⟩
   ·simp only [loadVar,aD,e,aw,cR,eU hT g,hl,aL]
   ·subst h;refine ⟨_,rfl,by simp; omega,fun y hy=>d y (dN hy),fun j y u h1 h2=>?_⟩;grind
 | false=>
  rw [hk] at h e;simp only [bq] at h
  cases cells with
  | nil=>cases h
  | cons y p=>
   simp only [aB] at h;subst h
   cases vals with
   | nil=>cases hlen
   | cons v vs=>
    have n:=hm 0 v rfl;refine ⟨v,?_,?_⟩
    ·simp only [loadVar,aD,e,aw,br,cv,run_load];grind
    ·have h1:=l 0 y v rfl rfl;refine (eD ?_).2 h1;rintro cs rfl;grind [absurd,List.mem_cons_self,AV.isCell]
theorem C7 {Γ} {c} {bx} {w} (h:WI Γ c bx w) {d} {cs} (e:get bx d=some cs) (off) :
  ∃ vals:List Value,(cs.drop off).length=vals.length/\(∀ x∈cs.drop off,x.isCell=true)/\(∀ (j:Nat) (x:AV) (v:Value),(cs.drop off)[j]?=some x->vals[j]?=some v->fD c x v) /\
   ∀ (j:Nat) (v:Value),vals[j]?=some v->w.cell? ⟨c.ρ d,off+j,none⟩=some v:=by
 by_cases b:cs=[]
 ·subst b;exact ⟨[],by simp,by simp,by simp,by simp⟩
 ·obtain ⟨h1,h2,f,vs,U,m,i,l⟩:=h.box d cs e b;refine ⟨vs.toList.drop off,by simp [i],fun x hx=>f x (gn hx),fun j x v g1 g2=>?_,fun j v g=>?_⟩
  ·grind
  grind [World.cell?]
theorem wB {c} {w} (f:c.m.sub w) {cs} {b off} (h:RD c.m (.ref cs) (.pointer (some ⟨b,off,none⟩))) :
  ∃ vals:List Value,cs.length=vals.length/\(∀ x∈cs,x.isCell=true)/\(∀ (j:Nat) (x:AV) (v:Value),cs[j]?=some x->vals[j]?=some v->fD c x v) /\
   ∀ (j:Nat) (v:Value),vals[j]?=some v->w.cell? ⟨b,off+j,none⟩=some v:=by
 cases h with
 | ref _ _ _ i g hm l=>
  refine ⟨(List.range cs.length).map g,by simp,i,fun j x v g1 g2=>?_,fun j v g2=>?_⟩
  ·rw [aT] at g2;obtain ⟨k,hk,rfl⟩:=aA.1 g2;grind [fD.of_RD]
  ·rw [aT] at g2;obtain ⟨k,hk,rfl⟩:=aA.1 g2;obtain ⟨e,d⟩:=aq.1 hk;simp at e d; subst d;exact f.cell _ _ _ (hm j _ (ai e))
open Go
theorem fp {α:Type}:∀ (l:List α) (n:Nat),qk l n=l[n]?
 | [],n=>by simp [qk]
 | x::r,0=>by simp [qk]
 | x::r,n+1=>by simp [qk,fp r n]
def ge (Γ:cr) (c:dM) (a:Act) (w:World) (o:Oper) (K:AV->Prop):Prop:=
 ∃ v x,(execOp a.eval o).run Γ.P w = .ok (.value v) w/\RC c x v/\K x
section
variable {Γ:cr} {T:eX} (hT:T.OK Γ.P) {bx:List (Nat×List AV)} {e:Operand->AV} {K:AV->Prop} {o:Oper} {a:Act} {w:World} {c:dM}
theorem WK {op} {x} {u} (h:unW op x K) (hx:RC c x u):∃ v y,(Op.unary op u).run Γ.P w = .ok v w/\RC c y v/\K y:=by
 unfold unW at h;split at h
 ·rw [hx.int]; exact ⟨_,_,by simp [Op.unary,Op.intArith],eC _ _,h⟩
 ·rw [hx.bool]; exact ⟨_,_,by simp [Op.unary],fc _,h⟩
 ·exact h.elim
theorem Jj {op} {t} {x y} {k k'} {m n}:(eqGuard op t x y (.int k m) (.int k' n)).run Γ.P w = .ok () w:=by
 unfold eqGuard; split <;> simp
theorem uS {op} {t} {x y} {m n}:(eqGuard op t x y (.bool m) (.bool n)).run Γ.P w = .ok () w:=by
 unfold eqGuard; split <;> simp
theorem UQ {op} {t} {k k'} {m n} (h:yI T op t (.int k m) (.int k' n) K):∃ v y,(binOp op t (.int k m) (.int k' n)).run Γ.P w = .ok v w/\RC c y v/\K y:=by
 unfold yI at h;cases op <;> simp only at h
 case add=>obtain ⟨rfl,b⟩:=f9 h; clear h; have h:=b; exact ⟨_,_,by simp [binOp,Op.intArith],eC _ _,h⟩
 case sub=>obtain ⟨rfl,b⟩:=f9 h; clear h; have h:=b; exact ⟨_,_,by simp [binOp,Op.intArith],eC _ _,h⟩
 case mul=>obtain ⟨rfl,b⟩:=f9 h; clear h; have h:=b; exact ⟨_,_,by simp [binOp,Op.intArith],eC _ _,h⟩
 case quo=>obtain ⟨rfl,d,b⟩:=f9 h; clear h; have h:=b; exact ⟨_,_,by simp [binOp,Op.intDiv,d],eC _ _,h⟩
 case rem=>obtain ⟨rfl,d,b⟩:=f9 h; clear h; have h:=b; exact ⟨_,_,by simp [binOp,Op.intDiv,d],eC _ _,h⟩
 case and=>obtain ⟨rfl,b⟩:=f9 h; clear h; have h:=b; exact ⟨_,_,by simp only [binOp,Op.intBits,Bg,iO,cv]; rfl,eC _ _,h⟩
 case or=>obtain ⟨rfl,b⟩:=f9 h; clear h; have h:=b; exact ⟨_,_,by simp only [binOp,Op.intBits,Bg,iO,cv]; rfl,eC _ _,h⟩
 case xor=>obtain ⟨rfl,b⟩:=f9 h; clear h; have h:=b; exact ⟨_,_,by simp only [binOp,Op.intBits,Bg,iO,cv]; rfl,eC _ _,h⟩
 case andNot=>obtain ⟨rfl,b⟩:=f9 h; clear h; have h:=b; exact ⟨_,_,by simp only [binOp,Op.intBits,Bg,iO,cv]; rfl,eC _ _,h⟩
 case shl=>obtain ⟨d,h⟩:=h; exact ⟨_,_,by simp [binOp,Op.shift,show ¬ n<0 by omega],eC _ _,h⟩
 case shr=>obtain ⟨d,h⟩:=h; exact ⟨_,_,by simp [binOp,Op.shift,show ¬ n<0 by omega],eC _ _,h⟩
 case eql=>obtain ⟨rfl,b⟩:=f9 h; clear h; have h:=b; exact ⟨_,_,by simp [binOp,Op.intCmp],fc _,h⟩
 case neq=>obtain ⟨rfl,b⟩:=f9 h; clear h; have h:=b; exact ⟨_,_,by simp [binOp,Op.intCmp],fc _,h⟩
 case lss=>obtain ⟨rfl,b⟩:=f9 h; clear h; have h:=b; exact ⟨_,_,by simp [binOp,Op.intCmp],fc _,h⟩
 case leq=>obtain ⟨rfl,b⟩:=f9 h; clear h; have h:=b; exact ⟨_,_,by simp [binOp,Op.intCmp],fc _,h⟩
 case gtr=>obtain ⟨rfl,b⟩:=f9 h; clear h; have h:=b; exact ⟨_,_,by simp [binOp,Op.intCmp],fc _,h⟩
 case geq=>obtain ⟨rfl,b⟩:=f9 h; clear h; have h:=b; exact ⟨_,_,by simp [binOp,Op.intCmp],fc _,h⟩
theorem uT {P} (l) (hf:∀ f∈l,f.name ≠ "_" /\ ∃ k,P.underlying f.type=some (.int k)) {xs ys} {cx cy}
  (hx:cx.length=xs.size/\∀ (i:Nat) (x:AV) (u:Value),cx[i]?=some x->xs[i]?=some u->fD c x u) (hy:cy.length=ys.size/\∀ (i:Nat) (x:AV) (u:Value),cy[i]?=some x->ys[i]?=some u->fD c x u)
  (d):∀ b:Bool,nL (l.map fun f=>(f.offset,f.type)) cx cy=some b->(Op.eqFields (d+1) xs ys l).run P w = .ok b w:=by
 induction l with
 | nil=>intro b h; simp only [eZ,nL,aB] at h; subst h; simp [Op.eqFields]
 | cons f l B=>
  intro b h;obtain ⟨z,k,hk⟩:=hf f (aW ..);simp only [cp,nL,fp] at h;split at h
  ·rename_i k1 x k2 y q h1 h2 v
   have m:k1=k2:=by
    cases p:wP k1 k2 with
    | true=>exact rQ p
    | false=>rw [p] at h; cases h
   rw [show wP k1 k2=true by grind,aP] at h;simp only [aB] at h;have A:f.offset<cx.length:=(aq.1 h1).1;have t:f.offset<cy.length:=(aq.1 h2).1
   have g1:xs[f.offset]?=some (.int k1 x):=by
    have j:f.offset<xs.size:=by omega
    have:=hx.2 _ _ _ h1 (aE j);rw [aE j];exact ax some (RC.int (c:=c) this)
   have g2:ys[f.offset]?=some (.int k2 y):=by
    have j:f.offset<ys.size:=by omega
    have:=hy.2 _ _ _ h2 (aE j);rw [aE j];exact ax some (RC.int (c:=c) this)
   have p1:(part f.type xs f.offset).run P w = .ok (.int k1 x) w:=by simp [part,isAgg,a7 hk,g1]
   have p2:(part f.type ys f.offset).run P w = .ok (.int k2 y) w:=by simp [part,isAgg,a7 hk,g2]
   have ih':=B (fun g r=>hf g (aS _ r)) q v;subst m;simp only [Op.eqFields,Bg,z,we,cR,aD,p1,p2,aw,aam w d f.type k1 k x y hk,L9]
   cases n:x==y with
   | true=>grind
   | false=>simp only [eu,cR,aL]; rw [<- h,n]; rfl
  ·cases h
include hT in
theorem ua {t} {i} (g:get T t=some i) (b:i.eqOK=true):∃ h:Array Field,Γ.P.underlying t=some (.struct h)/\i.flds=(h.toList.map fun f=>(f.offset,f.type))/\Γ.P.stoodInHeld t=false /\
  Γ.P.eqGuardType Γ.P.depth t=false/\∀ f∈h.toList,f.name ≠ "_" /\ ∃ k,Γ.P.underlying f.type=some (.int k):=by
 obtain ⟨j,d,h1,h2,l⟩:=eo hT g;simp only [TI.of,h1,h2,aB] at l;subst l;cases d <;> simp only [br] at b;rename_i h;simp only [al,c8,aN] at b;refine ⟨h,h2,rfl,b.1.1,b.1.2,fun f hf=>?_⟩;have:=b.2 f hf;refine ⟨by simpa using this.1.1,?_⟩
 cases hu:Γ.P.underlying f.type with
 | none=>grind
 | some d=>cases d <;> simp [hu] at this; exact ⟨_,rfl⟩
include hT in
theorem WM {t} {i} (g:get T t=some i) (hk:Nat.beq i.kind 1=true) (l:Nat.beq i.arr 1=true):∃ b:Array Field,Γ.P.underlying t=some (.struct b)/\i.flds=(b.toList.map fun f=>(f.offset,f.type))/\Γ.P.stoodInHeld t=false /\
  Γ.P.eqGuardType Γ.P.depth t=false/\∀ f∈b.toList,f.name ≠ "_" /\ ((∃ k,Γ.P.underlying f.type=some (.int k))\/∃ gs,Γ.P.underlying f.type=some (.struct gs)):=by
 obtain ⟨j,d,h1,h2,m⟩:=eo hT g;simp only [TI.of,h1,h2,aB] at m;subst m
 cases d with
 | struct b=>
  simp only at l
  cases h:(!Γ.P.stoodInHeld t && !Γ.P.eqGuardType Γ.P.depth t&&b.toList.all (wV Γ.P)) with
  | false=>rw [h] at l; cases l
  | true=>
   simp only [al,c8,aN] at h;refine ⟨b,h2,rfl,h.1.1,h.1.2,fun f hf=>?_⟩;have:=h.2 f hf;simp only [wV,al] at this;refine ⟨by simpa using this.1,?_⟩;have this:=this.2
   cases hu:Γ.P.underlying f.type with
   | none=>grind
   | some d=>cases d <;> simp [hu] at this <;> grind
 | _=>simp at hk
include hT in
theorem WN {t} {i} (g:get T t=some i) (hk:Nat.beq i.kind 2=true) (f:Nat.beq (tG i.flds) 1=true):∃ e h,Γ.P.underlying t=some (.array i.arr e)/\Γ.P.info? e=some h/\Γ.P.underlying e=some .bool/\Γ.P.cellsOf e=1/\Γ.P.eqGuardType Γ.P.depth t=false:=by
 obtain ⟨j,d,h1,h2,m⟩:=eo hT g;simp only [TI.of,h1,h2,aB] at m;subst m
 cases d with
 | array n e=>
  simp only at f
  cases b:zd Γ.P t e with
  | false=>rw [b] at f; cases p:ED Γ.P t e <;> rw [p] at f <;> cases f
  | true=>
   simp only [zd,Jl,al,c8,Nl] at b;obtain ⟨h,l⟩:=mE.1 b.1.1.2;refine ⟨e,h,h2,l,?_,b.2,b.1.1.1⟩;have this:=b.1.2
   cases hu:Γ.P.underlying e with
   | none=>grind
   | some d=>grind
 | _=>simp at hk
include hT in
theorem ub {t} {i} (g:get T t=some i) (hk:Nat.beq i.kind 2=true) (b:Nat.beq (tG i.flds) 2=true):∃ e h k,Γ.P.underlying t=some (.array i.arr e)/\Γ.P.info? e=some h/\Γ.P.underlying e=some (.int k)/\Γ.P.cellsOf e=1/\Γ.P.eqGuardType Γ.P.depth t=false:=by
 obtain ⟨j,d,h1,h2,l⟩:=eo hT g;simp only [TI.of,h1,h2,aB] at l;subst l
 cases d with
 | array n e=>
  simp only at b
  cases m:zd Γ.P t e with
  | true=>rw [m] at b; cases b
  | false=>
   rw [m,bq] at b
   cases f:ED Γ.P t e with
   | false=>rw [f] at b; cases b
   | true=>
    simp only [ED,Ps,al,c8,Nl] at f;obtain ⟨h,p⟩:=mE.1 f.1.1.2;have this:=f.1.2
    cases hu:Γ.P.underlying e with
    | none=>grind
    | some d=>grind
 | _=>simp at hk
theorem Ji {n} {xs ys} {b} (h:pp (n+1) xs ys=some b):∃ k p r q d f,xs = .int k p::r/\ys = .int k q::d/\pp n r d=some f/\b=((p==q)&&f):=by
 match xs,ys,h with
 | .int k p::r,.int k' q::d,h=>
  simp only [pp] at h;split at h
  ·rename_i f i
   cases hk:wP k k' with
   | false=>rw [hk] at h; cases h
   | true=>
    rw [hk] at h;simp only [aP,aB] at h;have:=rQ hk;subst this;grind
  ·cases h
theorem pn {e:TypeId} {k0:IntKind} (he:Γ.P.underlying e=some (.int k0)) {z y:List AV} {xs B:Array Value}
  (hx:z.length=xs.size/\∀ (i:Nat) (x:AV) (u:Value),z[i]?=some x->xs[i]?=some u->fD c x u) (hy:y.length=B.size/\∀ (i:Nat) (x:AV) (u:Value),y[i]?=some x->B[i]?=some u->fD c x u) (d:Nat) :
  ∀ (n j:Nat) (b:Bool),pp n (z.drop j) (y.drop j)=some b->(Op.eqItems (d+1) e 1 xs B (List.range' j n)).run Γ.P w = .ok b w
 | 0,j,b,h=>by simp only [pp,aB] at h; subst h; simp [Op.eqItems]
 | n+1,j,b,h=>by
  have get:∀ {l:List AV} {f:Array Value} {k:IntKind} {q:Int} {r:List AV},(l.length=f.size/\∀ (i:Nat) (x:AV) (u:Value),l[i]?=some x->f[i]?=some u->fD c x u)->l.drop j = .int k q::r->(part e f (j*1)).run Γ.P w = .ok (.int k q) w/\l.drop (j+1)=r:=by
   intro l f k q r hz D;have E:l[j]?=some (.int k q):=by rw [<- Bi,D]; rfl
   have m:j<f.size:=by rw [<- hz.1]; exact (aq.1 E).1
   have hv:=hz.2 _ _ _ E (aE m);have g:f[j]?=some (.int k q):=by rw [aE m]; exact ax some (RC.int (c:=c) hv)
   refine ⟨by simp [part,isAgg,a7 he,g],?_⟩;rw [<- aah,D]; rfl
  obtain ⟨k,p,r,q,M,J,A,v,t,rfl⟩:=Ji h;obtain ⟨p1,G⟩:=get hx A;obtain ⟨p2,F⟩:=get hy v;rw [<- G,<- F] at t;have L:=pn he hx hy d n (j+1) J t;rw [fj];simp only [Op.eqItems,aD,p1,p2,aw,aam w d e k k0 p q he,L9]
  cases H:p==q with
  | true=>grind
  | false=>simp only [eu,cR,aL]; rfl
theorem Em {n} {xs ys} {b} (h:pq (n+1) xs ys=some b):∃ p r q d f,xs = .bool p::r/\ys = .bool q::d/\pq n r d=some f/\b=((p==q)&&f):=by
 match xs,ys,h with
 | .bool p::r,.bool q::d,h=>
  simp only [pq] at h;grind
theorem sL {e:TypeId} (he:Γ.P.underlying e=some .bool) {z y:List AV} {xs B:Array Value}
  (hx:z.length=xs.size/\∀ (i:Nat) (x:AV) (u:Value),z[i]?=some x->xs[i]?=some u->fD c x u) (hy:y.length=B.size/\∀ (i:Nat) (x:AV) (u:Value),y[i]?=some x->B[i]?=some u->fD c x u) (d:Nat) :
  ∀ (n j:Nat) (b:Bool),pq n (z.drop j) (y.drop j)=some b->(Op.eqItems (d+1) e 1 xs B (List.range' j n)).run Γ.P w = .ok b w
 | 0,j,b,h=>by simp only [pq,aB] at h; subst h; simp [Op.eqItems]
 | n+1,j,b,h=>by
  have get:∀ {l:List AV} {f:Array Value} {q:Bool} {r:List AV},(l.length=f.size/\∀ (i:Nat) (x:AV) (u:Value),l[i]?=some x->f[i]?=some u->fD c x u)->l.drop j = .bool q::r->(part e f (j*1)).run Γ.P w = .ok (.bool q) w/\l.drop (j+1)=r:=by
   intro l f q r hz D;have E:l[j]?=some (.bool q):=by rw [<- Bi,D]; rfl
   have m:j<f.size:=by rw [<- hz.1]; exact (aq.1 E).1
   have hv:=hz.2 _ _ _ E (aE m);have g:f[j]?=some (.bool q):=by rw [aE m]; exact ax some (RC.bool (c:=c) hv)
   refine ⟨by simp [part,isAgg,a7 he,g],?_⟩;rw [<- aah,D]; rfl
  obtain ⟨p,r,q,M,J,A,v,t,rfl⟩:=Em h;obtain ⟨p1,G⟩:=get hx A;obtain ⟨p2,F⟩:=get hy v;rw [<- G,<- F] at t;have L:=sL he hx hy d n (j+1) J t;rw [fj];simp only [Op.eqItems,aD,p1,p2,aw,run_equalIn_bool w d e p q he,L9]
  cases H:p==q with
  | true=>grind
  | false=>simp only [eu,cR,aL]; rfl
include hT in
theorem tB:∀ (n:Nat) (t:TypeId) (Q L:List AV) (xs p:Array Value) (b:Bool),wW T n t Q L=some b ->
  (Q.length=xs.size/\∀ (i:Nat) (x:AV) (u:Value),Q[i]?=some x->xs[i]?=some u->fD c x u)->(L.length=p.size/\∀ (i:Nat) (x:AV) (u:Value),L[i]?=some x->p[i]?=some u->fD c x u) ->
  Γ.P.eqGuardType Γ.P.depth t=false/\∀ d,n<=d->(Op.equalIn (d+2) t (.agg xs) (.agg p)).run Γ.P w = .ok b w
 | 0,_,_,_,_,_,_,h,_,_=>by cases h
 | n+1,t,Q,L,xs,p,b,h,hx,hy=>by
  unfold wW at h;split at h
  ·cases h
  ·rename_i i E
   cases hk:i.eqOK with
   | true=>
    rw [hk] at h;obtain ⟨fs,hu,z,hs,l,hf⟩:=ua hT E hk;rw [aP,z] at h;have m:Γ.P.fieldsOf t=fs:=by simp [Program.fieldsOf,hu]
    refine ⟨l,fun d hd=>?_⟩;rw [run_equalIn_struct w (d+1) t xs p (by rw [m]; exact hu) hs,m];exact uT (w:=w) fs.toList hf hx hy d b h
   | false=>
    rw [hk,bq] at h
    cases D:(Nat.beq i.kind 1&&Nat.beq i.arr 1) with
    | false=>
     rw [D,bq] at h
     cases Z:(Nat.beq i.kind 2&&Nat.beq (tG i.flds) 1) with
     | false=>
      rw [Z,bq] at h
      cases r:(Nat.beq i.kind 2&&Nat.beq (tG i.flds) 2) with
      | false=>rw [r] at h; cases h
      | true=>
       rw [r,aP] at h;simp only [al] at r;obtain ⟨e,ie,k,hu,F,he,G,l⟩:=ub hT E r.1 r.2;refine ⟨l,fun d hd=>?_⟩;rw [Wr w (d+1) xs p hu F,G,db];exact pn (w:=w) he hx hy d i.arr 0 b (by simpa using h)
     | true=>
      rw [Z,aP] at h;simp only [al] at Z;obtain ⟨e,ie,hu,F,he,G,l⟩:=WN hT E Z.1 Z.2;refine ⟨l,fun d hd=>?_⟩;rw [Wr w (d+1) xs p hu F,G,db];exact sL (w:=w) he hx hy d i.arr 0 b (by simpa using h)
    | true=>
     rw [D,aP] at h;simp only [al] at D;obtain ⟨fs,hu,z,hs,l,hf⟩:=WM hT E D.1 D.2;rw [z] at h;have m:Γ.P.fieldsOf t=fs:=by simp [Program.fieldsOf,hu]
     refine ⟨l,fun d hd=>?_⟩;rw [run_equalIn_struct w (d+1) t xs p (by rw [m]; exact hu) hs,m];clear hu z m;generalize fs.toList=fl at h hf ⊢
     induction fl generalizing b with
     | nil=>simp only [eZ,Ux,aB] at h; subst h; simp [Op.eqFields]
     | cons f fl ih=>
      obtain ⟨hn,U⟩:=hf f (aW ..);simp only [cp,Ux,fp] at h;split at h
      ·cases h
      ·rename_i j hj;obtain ⟨_,dsc,_,B,A⟩:=eo hT hj
       cases H:Nat.beq j.kind 4 with
       | true=>
        rw [H,aP] at h;split at h
        ·rename_i k1 x k2 y b' h1 h2 h3
         have hkk:k1=k2:=by
          cases D:wP k1 k2 with
          | true=>exact rQ D
          | false=>rw [D] at h; cases h
         rw [show wP k1 k2=true by grind,aP] at h;simp only [aB] at h;have hl1:f.offset<Q.length:=(aq.1 h1).1;have hl2:f.offset<L.length:=(aq.1 h2).1
         have g1:xs[f.offset]?=some (.int k1 x):=by
          have q:f.offset<xs.size:=by omega
          have:=hx.2 _ _ _ h1 (aE q);rw [aE q];exact ax some (RC.int (c:=c) this)
         have g2:p[f.offset]?=some (.int k2 y):=by
          have q:f.offset<p.size:=by omega
          have:=hy.2 _ _ _ h2 (aE q);rw [aE q];exact ax some (RC.int (c:=c) this)
         obtain ⟨k,hk⟩:∃ k,Γ.P.underlying f.type=some (.int k):=by
          rcases U with h | ⟨gs,h⟩
          ·exact h
          ·exfalso;rw [B] at h; cases h;simp only [TI.of,‹Γ.P.info? f.type=some _›,B,aB] at A;rw [<- A] at H; cases H
         have p1:(part f.type xs f.offset).run Γ.P w = .ok (.int k1 x) w:=by simp [part,isAgg,a7 hk,g1]
         have p2:(part f.type p f.offset).run Γ.P w = .ok (.int k2 y) w:=by simp [part,isAgg,a7 hk,g2]
         have ih':=ih b' h3 (fun g E=>hf g (aS _ E));subst hkk;simp only [Op.eqFields,Bg,hn,we,cR,aD,p1,p2,aw,aam w d f.type k1 k x y hk,L9]
         cases v:x==y with
         | true=>grind
         | false=>simp only [eu,cR,aL]; rw [<- h,v]; rfl
        ·cases h
       | false=>
        rw [H,bq] at h;split at h
        ·rename_i b1 b2 h1 h2;simp only [aB] at h
         obtain ⟨gs,hst⟩:∃ gs,Γ.P.underlying f.type=some (.struct gs):=by
          rcases U with ⟨k,h⟩ | h
          ·exfalso;rw [B] at h; cases h;simp only [TI.of,‹Γ.P.info? f.type=some _›,B,aB] at A;rw [<- A] at H; cases H
          ·exact h
         have sub:∀ {N:List AV} {M:Array Value},(N.length=M.size/\∀ (i:Nat) (x:AV) (u:Value),N[i]?=some x->M[i]?=some u->fD c x u) ->
           (((N.drop f.offset).take j.size).length=(M.extract f.offset (f.offset+j.size)).size/\∀ (i:Nat) (x:AV) (u:Value),((N.drop f.offset).take j.size)[i]?=some x->(M.extract f.offset (f.offset+j.size))[i]?=some u->fD c x u):=by
          intro N M ⟨g1,g2⟩;refine ⟨by simp; omega,fun i x u X e2=>?_⟩;rw [dj] at X;split at X
          ·rw [cB] at X;rw [Array.getElem?_extract] at e2;split at e2
           ·exact g2 _ _ _ X e2
           ·cases e2
          ·cases X
         have J:=(tB n f.type _ _ _ _ b1 h1 (sub hx) (sub hy)).2 (d - 1) am;rw [show d - 1+2=d+1 by omega] at J;have p1:(part f.type xs f.offset).run Γ.P w = .ok (.agg (xs.extract f.offset (f.offset+j.size))) w:=by simp [part,isAgg,a7 hst,eU hT hj]
         have p2:(part f.type p f.offset).run Γ.P w = .ok (.agg (p.extract f.offset (f.offset+j.size))) w:=by simp [part,isAgg,a7 hst,eU hT hj]
         have ih':=ih b2 h2 (fun g E=>hf g (aS _ E));simp only [Op.eqFields,Bg,hn,we,cR,aD,p1,p2,aw,J,L9]
         cases v:b1 with
         | true=>simp only [jm,br,cv,ih']; rw [<- h,v]; rfl
         | false=>simp only [eu,cR,aL]; rw [<- h,v]; rfl
        ·cases h
theorem yv {P} (w) (d) {t} {a1 a2 a3} (hf:P.underlying t=some (.func a1 a2 a3)):(Op.equalIn (d+1) t .nilFunc .nilFunc).run P w = .ok true w:=by simp [Op.equalIn,a7 hf]
theorem wx {P} (w) (d) {t} {a1 a2 a3} (hf:P.underlying t=some (.func a1 a2 a3)) (f) (x y):(Op.equalIn (d+1) t (.func f x y) .nilFunc).run P w = .ok false w:=by simp [Op.equalIn,a7 hf]
include hT in
theorem zP {op} {t} {p q} {b} {u} (h:MG T op t b K) (hu:(u = .nilFunc/\b=true)\/(∃ f x y,u = .func f x y)/\b=false) :
  ∃ r z,((do eqGuard op t p q u .nilFunc; binOp op t u .nilFunc:Sem Value)).run Γ.P w = .ok r w/\RC c z r/\K z:=by
 unfold MG at h
 have d:∀ j,(eqGuard j t p q u .nilFunc).run Γ.P w = .ok () w:=by
  intro j;rcases hu with ⟨rfl,_⟩ | ⟨⟨f,x,y,rfl⟩,_⟩ <;> (unfold eqGuard; split <;> simp)
 have heq:∀ l a2 a3,Γ.P.underlying t=some (.func l a2 a3)->(Op.equal t u .nilFunc).run Γ.P w = .ok b w:=by
  intro l a2 a3 hf;rcases hu with ⟨rfl,rfl⟩ | ⟨⟨f,x,y,rfl⟩,rfl⟩
  ·exact yv w 9999 hf
  ·exact wx w 9999 hf f x y
 split at h
 ·rename_i i m;obtain ⟨hk,h⟩:=pC h;obtain ⟨l,a2,a3,hf⟩:=H9 hT m (ak hk);refine ⟨_,_,?_,fc _,h⟩;rcases hu with ⟨rfl,rfl⟩ | ⟨⟨f,x,y,rfl⟩,rfl⟩ <;> simp only [aD,d,aw,binOp,heq _ _ _ hf] <;> rfl
 ·rename_i i m;obtain ⟨hk,h⟩:=pC h;obtain ⟨l,a2,a3,hf⟩:=H9 hT m (ak hk);refine ⟨_,_,?_,fc _,h⟩;rcases hu with ⟨rfl,rfl⟩ | ⟨⟨f,x,y,rfl⟩,rfl⟩ <;> simp only [aD,d,aw,binOp,heq _ _ _ hf] <;> rfl
 ·exact h.elim
include hT in
theorem UP {op} {t} {p q} {x y} {u v} (h:yI T op t x y K) (hx:RC c x u) (hy:RC c y v) :
  ∃ r z,((do eqGuard op t p q u v; binOp op t u v:Sem Value)).run Γ.P w = .ok r w/\RC c z r/\K z:=by
 cases x with
 | int k m=>
  cases y with
  | int k' n=>
   rw [hx.int,hy.int];obtain ⟨r,z,h1,h2,M⟩:=UQ (Γ:=Γ) (w:=w) (c:=c) h;grind [Sem.run_bind,Jj,Result.andThen_ok]
  | _=>exact h.elim
 | bool m=>
  cases y with
  | bool n=>
   rw [hx.bool,hy.bool];unfold yI at h;simp only at h;split at h
   ·rename_i i G;obtain ⟨hk,h⟩:=pC h;have j:=Ia hT G (ak hk);refine ⟨_,_,?_,fc _,h⟩;simp only [aD,uS,aw,binOp,Op.equal,Op.maxDepth,run_equalIn_bool' w 9999 t m n j];rfl
   ·rename_i i G;obtain ⟨hk,h⟩:=pC h;have j:=Ia hT G (ak hk);refine ⟨_,_,?_,fc _,h⟩;simp only [aD,uS,aw,binOp,Op.equal,Op.maxDepth,run_equalIn_bool' w 9999 t m n j];rfl
   ·exact h.elim
  | _=>exact h.elim
 | agg J=>
  cases y with
  | agg H=>
   obtain ⟨xs,rfl,E,_,A⟩:=hx;obtain ⟨F,rfl,B,_,D⟩:=hy;unfold yI at h;simp only at h;split at h
   ·split at h
    ·rename_i b j;obtain ⟨d,l⟩:=tB (c:=c) (w:=w) hT 4 t J H xs F b j ⟨E,A⟩ ⟨B,D⟩;have l:=l 9998 am;refine ⟨_,_,?_,fc _,h⟩;simp only [aD,run_eqGuard_agg w _ t p q xs F d,aw,run_eql_struct,l]
    ·exact h.elim
   ·split at h
    ·rename_i b j;obtain ⟨d,l⟩:=tB (c:=c) (w:=w) hT 4 t J H xs F b j ⟨E,A⟩ ⟨B,D⟩;have l:=l 9998 am;refine ⟨_,_,?_,fc _,h⟩;simp only [aD,run_eqGuard_agg w _ t p q xs F d,aw,run_neq_struct,l]
    ·exact h.elim
   ·exact h.elim
  | _=>exact h.elim
 | lit L=>
  cases y with
  | lit v0=>
   obtain rfl:u=L:=by cases (show RD c.m (.lit L) u from hx); rfl
   obtain rfl:v=v0:=by cases (show RD c.m (.lit v0) v from hy); rfl
   unfold yI at h;simp only at h;split at h
   ·exact zP hT h (.inl ⟨rfl,rfl⟩)
   ·exact h.elim
  | _=>exact h.elim
 | clo f cap=>
  cases y with
  | lit v0=>
   obtain rfl:v=v0:=by cases (show RD c.m (.lit v0) v from hy); rfl
   unfold yI at h;simp only at h;split at h
   ·exact zP hT h (.inr ⟨by cases (show RD c.m (.clo f cap) u from hx); exact ⟨_,_,_,rfl⟩,rfl⟩)
   ·exact h.elim
  | _=>exact h.elim
 | fn f=>
  cases y with
  | lit v0=>
   obtain rfl:v=v0:=by cases (show RD c.m (.lit v0) v from hy); rfl
   unfold yI at h;simp only at h;split at h
   ·exact zP hT h (.inr ⟨by cases (show RD c.m (.fn f) u from hx); exact ⟨_,_,_,rfl⟩,rfl⟩)
   ·exact h.elim
  | _=>exact h.elim
 | _=>exact h.elim
end
open Go
theorem I0:∀ {x y:List Int},y.map (Value.int .i64)=x.map (Value.int .i64)->x=y
 | [],[],_=>rfl
 | [],b::y,h=>by simp at h
 | a::x,[],h=>by simp at h
 | a::x,b::y,h=>by simp only [cp,gG,Value.int.injEq,true_and] at h; rw [h.1,I0 h.2]
theorem uH {x y} (h:eh y=eh x):x=y:=by
 simp only [eh,Value.agg.injEq] at h;exact I0 (ax Array.toList h)
theorem DD:∀ (l:List (Nat×Nat)) (m n:Nat),Il l m n=true->m<=n
 | [],m,n,h=>Nat.le_of_eq (ak h)
 |(o,_)::r,m,n,h=>by
  simp only [Il,al] at h;exact Nat.le_of_succ_le (DD r _ _ h.2)
theorem OJ:∀ (l:List (Nat×Nat)) (m n:Nat),Il l m n=true->∀ p∈l,p.1<n
 | [],m,n,h,p,a=>by cases a
 |(o,_)::r,m,n,h,p,a=>by
  simp only [Il,al] at h;rcases bC.1 a with rfl | a
  ·have:=DD r _ _ h.2;grind [Nat.eq_of_beq_eq_true]
  ·exact OJ r _ _ h.2 p a
theorem IL (x:List Int) {m} (h):qk (x.map (AV.int .i64)) m=some (.int .i64 x[m]):=by rw [fp]; simp [h]
theorem uU:∀ (l:List (Nat×Nat)) (m n:Nat) (x y:List Int),Il l m n=true->x.length=n->y.length=n ->
  nL l (x.map (AV.int .i64)) (y.map (AV.int .i64))=some (decide (x.drop m=y.drop m))
 | [],m,n,x,y,h,hx,hy=>by
  have:=ak h;rw [nL,c7 am,c7 am];rfl
 |(o,t)::r,m,n,x,y,h,hx,hy=>by
  simp only [Il,al] at h;have h1:=ak h.1;have h2:=DD r _ _ h.2;subst h1;simp only [nL,IL x (show o<x.length by omega),IL y (show o<y.length by omega),uU r _ _ x y h.2 hx hy];rw [dy (show o<x.length by omega),dy (show o<y.length by omega)];simp only [wP,aP,aB,gG];grind
def acd:dM:=⟨fun _=>0,fun _ => .slice none 0 0,fun _=>0,⟨fun _ _=>none,fun _=>none⟩,fun _=>none,fun _=>(0,0)⟩
theorem pa (x:List Int):(x.map (AV.int .i64)).length=(x.map (Value.int .i64)).toArray.size/\∀ (i:Nat) (y:AV) (u:Value),(x.map (AV.int .i64))[i]?=some y->((x.map (Value.int .i64)).toArray)[i]?=some u->fD acd y u:=by
 refine ⟨by simp,fun i y u h1 h2=>?_⟩;simp only [aT,aA,fV] at h1 h2;obtain ⟨a,d,rfl⟩:=h1;obtain ⟨b,c,rfl⟩:=h2;rw [d] at c;cases c;exact RD.int _ _
section
variable {Γ:cr} {T:eX} (hT:T.OK Γ.P) {w:World}
include hT
theorem Br {t} {i} (g:get T t=some i) (hk:uI i=true) (x y) (hx:x.length=i.size) (hy:y.length=i.size):(Op.equal t (eh x) (eh y)).run Γ.P w = .ok (decide (x=y)) w:=by
 simp only [uI,al] at hk;obtain ⟨b,hu,a,f,c,hf⟩:=ua hT g hk.1;have d:Γ.P.fieldsOf t=b:=by simp [Program.fieldsOf,hu]
 have he:=uU _ _ _ x y hk.2 hx hy;rw [a] at he;have e:=uT (w:=w) b.toList hf (pa x) (pa y) 9998 _ he;grind [eh,Op.equal,Op.maxDepth,run_equalIn_struct]
theorem Bt {t} {i} (g:get T t=some i) (hk:uI i=true) (x) (hx:x.length=i.size) (em):(Instr.checkKey em 10000 t (eh x)).run Γ.P w = .ok () w:=by
 simp only [uI,al] at hk;obtain ⟨c,hu,h,m,d,hf⟩:=ua hT g hk.1
 have a:∀ f∈c.toList,f.offset<x.length:=fun f e=>by
  have:=OJ _ _ _ hk.2 (f.offset,f.type) (by grind);simp only at this; omega
 rw [show (10000:Nat)=9999+1 from rfl,eh,Instr.checkKey];simp only [aD,a7 hu,aw];rw [<- Array.forIn_toList];generalize c.toList=L at hf a
 induction L with
 | nil=>simp
 | cons f L l=>
  obtain ⟨j,k,b⟩:=hf f dc;have hl:=a f dc
  have p1:(part f.type (x.map (Value.int .i64)).toArray f.offset).run Γ.P w = .ok (.int .i64 (x[f.offset])) w:=by
   simp [part,isAgg,a7 b,aT,hl]
  have p2:(Instr.checkKey em 9999 f.type (.int .i64 (x[f.offset]))).run Γ.P w = .ok () w:=by
   rw [show (9999:Nat)=9998+1 from rfl,Instr.checkKey];simp only [aD,a7 b,aw,aL]
  simp only [List.forIn_cons,aD,j,Bg,we,cR,aw,p1,p2,aL];exact l (fun y hy=>hf y (by simp [hy])) (fun y hy=>a y (by simp [hy]))
theorem mQ {t:TypeId} {i:TI} (g:get T t=some i) (hk:uI i=true) (x:List Int) (hx:x.length=i.size):∀ (es:List MapEntry) (n:Nat),(∀ e∈es,∃ y:List Int,e.key=eh y/\y.length=i.size) ->
  ((Instr.findAsking t (eh x) es n).run Γ.P w = .ok none w/\∀ e∈es,e.key≠eh x)\/∃ j e,(Instr.findAsking t (eh x) es n).run Γ.P w = .ok (some (n+j,e.val)) w/\es[j]?=some e/\e.key=eh x
 | [],n,_ => .inl ⟨by simp [Instr.findAsking],by simp⟩
 | e::es,n,h=>by
  obtain ⟨y,hy,d⟩:=h e dc;have f:=Br (w:=w) hT g hk x y hx d;by_cases a:x=y
  ·refine .inr ⟨0,e,?_,rfl,by rw [hy,a]⟩;simp only [Instr.findAsking,aD,hy,f,aw,bP a,cR,aL,eb]
  ·have l:e.key≠eh x:=fun o=>by
    grind [eh,Value.agg.injEq,uH]
   have c:∀ r,(Instr.findAsking t (eh x) es (n+1)).run Γ.P w=r->(Instr.findAsking t (eh x) (e::es) n).run Γ.P w=r:=fun r b=>by
    simp only [Instr.findAsking,aD,hy,f,aw,a,decide_false,br,cv,b]
   rcases mQ g hk x hx es (n+1) (fun e he=>h e (by simp [he])) with ⟨h1,h2⟩ | ⟨j,e',h1,h2,m⟩
   ·grind
   ·exact .inr ⟨j+1,e',by grind,by simpa using h2,m⟩
theorem yt {t} {i} (g:get T t=some i) (hk:uI i=true) (x) (hx:x.length=i.size) (es) (h:∀ e∈es,∃ y:List Int,e.key=eh y/\y.length=i.size) :
  ((Instr.findKey t (eh x) es).run Γ.P w = .ok none w/\∀ e∈es,e.key≠eh x)\/∃ j e,(Instr.findKey t (eh x) es).run Γ.P w = .ok (some (j,e.val)) w/\es[j]?=some e/\e.key=eh x:=by
 have hk':=hk;simp only [uI,al] at hk';obtain ⟨b,hu,_⟩:=ua hT g hk'.1
 cases es with
 | nil=>exact .inl ⟨by simp [Instr.findKey,a7 hu,Instr.findNow],by simp⟩
 | cons e es=>
  have c:Instr.findNow (.struct b) (eh x) (e::es) 0=none:=by simp [Instr.findNow,Instr.sameNow]
  have he:∀ r,(Instr.findAsking t (eh x) (e::es) 0).run Γ.P w=r->(Instr.findKey t (eh x) (e::es)).run Γ.P w=r:=fun r a=>by
   simp only [Instr.findKey,aD,a7 hu,aw,c,a]
  rcases mQ (w:=w) hT g hk x hx (e::es) 0 h with ⟨h1,h2⟩ | ⟨j,e',h1,h2,d⟩
  ·grind
  grind
theorem mR {t:TypeId} {b:Nat} (heq:∀ x y:List Int,x.length=b->y.length=b->(Op.equal t (eh x) (eh y)).run Γ.P w = .ok (decide (x=y)) w) (x:List Int) (hx:x.length=b):∀ (es:List MapEntry) (n:Nat),(∀ e∈es,∃ y:List Int,e.key=eh y/\y.length=b) ->
  ((Instr.findAsking t (eh x) es n).run Γ.P w = .ok none w/\∀ e∈es,e.key≠eh x)\/∃ j e,(Instr.findAsking t (eh x) es n).run Γ.P w = .ok (some (n+j,e.val)) w/\es[j]?=some e/\e.key=eh x
 | [],n,_ => .inl ⟨by simp [Instr.findAsking],by simp⟩
 | e::es,n,h=>by
  obtain ⟨y,hy,f⟩:=h e dc;have i:=heq x y hx f;by_cases a:x=y
  ·refine .inr ⟨0,e,?_,rfl,by rw [hy,a]⟩;simp only [Instr.findAsking,aD,hy,i,aw,bP a,cR,aL,eb]
  ·have l:e.key≠eh x:=fun o=>by
    grind
   have d:∀ r,(Instr.findAsking t (eh x) es (n+1)).run Γ.P w=r->(Instr.findAsking t (eh x) (e::es) n).run Γ.P w=r:=fun r c=>by
    simp only [Instr.findAsking,aD,hy,i,aw,a,decide_false,br,cv,c]
   rcases mR heq x hx es (n+1) (fun e he=>h e (by simp [he])) with ⟨h1,h2⟩ | ⟨j,e',h1,h2,m⟩
   ·grind
   ·exact .inr ⟨j+1,e',by grind,by simpa using h2,m⟩
omit hT in
theorem xU:∀ (x y:List Int),x.length=y.length->pp x.length (x.map (AV.int .i64)) (y.map (AV.int .i64))=some (decide (x=y))
 | [],[],_=>rfl
 | a::x,b::y,h=>by
  have c:=xU x y (by simpa using h);simp only [bu,cp,pp,c,wP,aP,aB,gG];grind
theorem Bs {t} {i} (g:get T t=some i) (hk:qQ i=true) (x y) (hx:x.length=i.arr) (hy:y.length=i.arr):(Op.equal t (eh x) (eh y)).run Γ.P w = .ok (decide (x=y)) w:=by
 simp only [qQ,al] at hk;obtain ⟨e,h,k,hu,a,he,b,f⟩:=ub hT g hk.1 hk.2.1;have d:=xU x y am;rw [hx] at d;have j:=pn (w:=w) he (pa x) (pa y) 9998 i.arr 0 _ (by simpa using d);have c:=Wr w 9999 (x.map (Value.int .i64)).toArray (y.map (Value.int .i64)).toArray hu a;rw [b,db] at c;rw [show (9999:Nat)=9998+1 from rfl] at c;grind [eh,Op.equal,Op.maxDepth]
theorem Bu {t} {i} (g:get T t=some i) (hk:qQ i=true) (x) (hx:x.length=i.arr) (em):(Instr.checkKey em 10000 t (eh x)).run Γ.P w = .ok () w:=by
 simp only [qQ,al] at hk;obtain ⟨e,m,k,hu,b,he,h,l⟩:=ub hT g hk.1 hk.2.1;rw [show (10000:Nat)=9999+1 from rfl,eh,Instr.checkKey];simp only [aD,a7 hu,aw]
 have c:(sizeOf e).run Γ.P w = .ok 1 w:=by
  have d:m.size=1:=by simpa [Program.cellsOf,b] using h
  simp [sizeOf,typeInfo,b,d]
 rw [Std.Legacy.Range.forIn_eq_forIn_range']
 have a:∀ j∈List.range' 0 i.arr 1,j<x.length:=fun j hj=>by
  grind
 have f:(Std.Legacy.Range.size [0:i.arr])=i.arr:=by simp [Std.Legacy.Range.size]
 rw [f];generalize List.range' 0 i.arr 1=L at a
 induction L with
 | nil=>simp
 | cons j L n=>
  have hl:=a j dc
  have p1:(part e (x.map (Value.int .i64)).toArray (j*1)).run Γ.P w = .ok (.int .i64 (x[j])) w:=by
   simp [part,isAgg,a7 he,aT,hl]
  have p2:(Instr.checkKey em 9999 e (.int .i64 (x[j]))).run Γ.P w = .ok () w:=by
   rw [show (9999:Nat)=9998+1 from rfl,Instr.checkKey];simp only [aD,a7 he,aw,aL]
  simp only [List.forIn_cons,aD,c,aw,p1,p2,aL];exact n (fun y hy=>a y (by simp [hy]))
theorem yu {t} {i} (g:get T t=some i) (hk:qQ i=true) (x) (hx:x.length=i.arr) (es) (h:∀ e∈es,∃ y:List Int,e.key=eh y/\y.length=i.arr) :
  ((Instr.findKey t (eh x) es).run Γ.P w = .ok none w/\∀ e∈es,e.key≠eh x)\/∃ j e,(Instr.findKey t (eh x) es).run Γ.P w = .ok (some (j,e.val)) w/\es[j]?=some e/\e.key=eh x:=by
 have heq:=fun x y hx hy=>Bs (w:=w) hT g hk x y hx hy;simp only [qQ,al] at hk;obtain ⟨b,n,k0,hu,l,d,m,a⟩:=ub hT g hk.1 hk.2.1
 cases es with
 | nil=>exact .inl ⟨by simp [Instr.findKey,a7 hu,Instr.findNow],by simp⟩
 | cons e es=>
  have f:Instr.findNow (.array i.arr b) (eh x) (e::es) 0=none:=by simp [Instr.findNow,Instr.sameNow]
  have he:∀ r,(Instr.findAsking t (eh x) (e::es) 0).run Γ.P w=r->(Instr.findKey t (eh x) (e::es)).run Γ.P w=r:=fun r c=>by
   simp only [Instr.findKey,aD,a7 hu,aw,f,c]
  rcases mR (w:=w) hT heq x hx (e::es) 0 h with ⟨h1,h2⟩ | ⟨j,e',h1,h2,o⟩
  ·grind
  grind
omit hT in
theorem sy (x):(Instr.keyThatStays (eh x) (eh x)).run Γ.P w = .ok (eh x) w:=by
 have b:Instr.sameBits 10000 (eh x) (eh x)=true:=by
  show Instr.sameBits (9999+1) (.agg _) (.agg _)=true;simp only [Instr.sameBits,ei,bG,aN];intro p a;obtain ⟨i,hi,e⟩:=cI a;rw [List.getElem_zip] at e;rw [<- e];simp [Instr.sameBits]
 simp [Instr.keyThatStays,b]
end
def sg (sk:Bool) (a:List Int):Value:=bif sk then eh a else (match a with | n::_ => .int .i64 n | []=>Go.undef)
structure Y0 (P:Program) (a:TypeId) (sk:Bool) (n:Nat):Prop where
 find:∀ (w:World) (x:List Int),x.length=n->∀ es:List MapEntry,(∀ e∈es,∃ y:List Int,e.key=sg sk y/\y.length=n) ->
  ((Instr.findKey a (sg sk x) es).run P w = .ok none w/\∀ e∈es,e.key≠sg sk x)\/∃ j e,(Instr.findKey a (sg sk x) es).run P w = .ok (some (j,e.val)) w/\es[j]?=some e/\e.key=sg sk x
 check:∀ (w:World) (b:Bool) (x:List Int),x.length=n->(Instr.checkKey b 10000 a (sg sk x)).run P w = .ok () w
 stays:∀ (w:World) (x:List Int),x.length=n->(Instr.keyThatStays (sg sk x) (sg sk x)).run P w = .ok (sg sk x) w
 inj:∀ x y:List Int,x.length=n->y.length=n->sg sk x=sg sk y->x=y
 pos:sk=false->n=1
theorem mo {x:List Int} (h:x.length=1):∃ n,x=[n]:=List.length_eq_one_iff.1 h
theorem Ea {P} {kt} (h2:P.underlying kt=some (.int .i64)) (w) (x) (es) (h:∀ e∈es,∃ y:Int,e.key = .int .i64 y) :
  ((Instr.findKey kt (.int .i64 x) es).run P w = .ok none w/\∀ e∈es,e.key≠.int .i64 x)\/∃ j e,(Instr.findKey kt (.int .i64 x) es).run P w = .ok (some (j,e.val)) w/\es[j]?=some e/\e.key = .int .i64 x:=by
 have key:∀ (es:List MapEntry) (n:Nat),(∀ e∈es,∃ y:Int,e.key = .int .i64 y)->(Instr.findNow (.int .i64) (.int .i64 x) es n=some none/\∀ e∈es,e.key≠.int .i64 x) \/
   ∃ j e,Instr.findNow (.int .i64) (.int .i64 x) es n=some (some (n+j,e.val))/\es[j]?=some e/\e.key = .int .i64 x:=by
  intro es
  induction es with
  | nil=>intro n _; exact .inl ⟨rfl,by simp⟩
  | cons e r c=>
   intro n h;obtain ⟨y,hy⟩:=h e dc;by_cases hx:x=y
   ·refine .inr ⟨0,e,?_,rfl,by rw [hy,hx]⟩;simp [Instr.findNow,Instr.sameNow,hy,hx]
   ·have b:Instr.sameNow (.int .i64) (.int .i64 x) e.key=some false:=by simp [Instr.sameNow,hy,hx]
    rcases c (n+1) (fun e he=>h e (by simp [he])) with ⟨h1,h2⟩ | ⟨j,e',h1,h2,a⟩
    ·refine .inl ⟨by simp only [Instr.findNow,b,h1],fun e' he=>?_⟩;grind
    ·exact .inr ⟨j+1,e',by grind [Instr.findNow],by simpa using h2,a⟩
 rcases key es 0 h with ⟨h1,a⟩ | ⟨j,e,h1,a,d⟩
 ·exact .inl ⟨by simp only [Instr.findKey,aD,a7 h2,aw,h1,aL],a⟩
 ·exact .inr ⟨j,e,by simp only [Instr.findKey,aD,a7 h2,aw,h1,aL,bS],a,d⟩
theorem Xt {k} (h:Zu k=true):k = .i64:=by cases k <;> first | rfl | cases h
theorem tu {P} {T:eX} (hT:T.OK P) {kt} {i} {sk} {n} (g:get T kt=some i) (h:nK i=some (sk,n)):Y0 P kt sk n:=by
 unfold nK at h
 cases h1:(Nat.beq i.kind 4&&Zu i.ik) with
 | true=>
  rw [h1] at h;cases h;rw [al] at h1;have hu:P.underlying kt=some (.int .i64):=by rw [OC hT g (ak h1.1),Xt h1.2]
  refine ⟨fun w x hx es he=>?_,fun w b x hx=>?_,fun w x hx=>?_,fun x y hx hy h=>?_,fun _=>rfl⟩
  ·obtain ⟨m,rfl⟩:=mo hx
   exact Ea hu w m es fun e c=>by
    obtain ⟨y,a,f⟩:=he e c;obtain ⟨z,rfl⟩:=mo f;exact ⟨z,a⟩
  ·obtain ⟨m,rfl⟩:=mo hx;show (Instr.checkKey b (9999+1) kt (.int .i64 m)).run P w=_;rw [Instr.checkKey];simp only [aD,a7 hu,aw,aL]
  ·obtain ⟨m,rfl⟩:=mo hx;show (Instr.keyThatStays (.int .i64 m) (.int .i64 m)).run P w=_
   have d:Instr.sameBits 10000 (.int .i64 m) (.int .i64 m)=true:=by
    rw [show (10000:Nat)=9999+1 from rfl];simp [Instr.sameBits]
   simp [Instr.keyThatStays,d,sg]
  ·obtain ⟨m,rfl⟩:=mo hx;obtain ⟨m',rfl⟩:=mo hy;simp only [sg,bq,Value.int.injEq,true_and] at h;rw [h]
 | false=>
  rw [h1,bq] at h;have g2:∀ w:World,∃ Γ:cr,Γ.P=P:=fun w=>⟨⟨P,Fence.wide,0,w,⟨fun _ _=>none,fun _=>none⟩,0⟩,rfl⟩
  cases h2:uI i with
  | false=>
   rw [h2,bq] at h
   cases a:qQ i with
   | false=>rw [a] at h; cases h
   | true=>
    rw [a] at h;cases h;refine ⟨fun w x hx es he=>?_,fun w b x hx=>?_,fun w x _=>?_,fun x y _ _ h=>uH h.symm,fun h=>nomatch h⟩
    ·obtain ⟨Γ,rfl⟩:=g2 w;exact yu (w:=w) hT g a x hx es he
    ·obtain ⟨Γ,rfl⟩:=g2 w;exact Bu (w:=w) hT g a x hx b
    ·obtain ⟨Γ,rfl⟩:=g2 w;exact sy (Γ:=Γ) (w:=w) x
  | true=>
   rw [h2] at h;cases h;have g2:∀ w:World,∃ Γ:cr,Γ.P=P:=fun w=>⟨⟨P,Fence.wide,0,w,⟨fun _ _=>none,fun _=>none⟩,0⟩,rfl⟩;refine ⟨fun w x hx es he=>?_,fun w b x hx=>?_,fun w x _=>?_,fun x y _ _ h=>uH h.symm,fun h=>nomatch h⟩
   ·obtain ⟨Γ,rfl⟩:=g2 w;exact yt (w:=w) hT g h2 x hx es he
   ·obtain ⟨Γ,rfl⟩:=g2 w;exact Bt (w:=w) hT g h2 x hx b
   ·obtain ⟨Γ,rfl⟩:=g2 w;exact sy (Γ:=Γ) (w:=w) x
section
variable {P:Program} {w:World}
theorem um {mt kt et} {sk} {n} (a:Y0 P kt sk n) (hm:P.underlying mt=some (.map kt et)) (x) (hx:x.length=n) {b} {es} {clock} (v) (c:w.heap[b]?=some (.map es clock))
  (h:∀ e∈es.toList,∃ y:List Int,e.key=sg sk y/\y.length=n) :
  ((Instr.mapUpdate mt (.map (some b)) (sg sk x) v).run P w = .ok () (w.putObj b (.map (es.push ⟨sg sk x,v,clock⟩) (clock+1)))/\∀ e∈es.toList,e.key≠sg sk x) \/
  ∃ j e,(Instr.mapUpdate mt (.map (some b)) (sg sk x) v).run P w = .ok () (w.putObj b (.map (es.modify j fun e=>{ e with key:=sg sk x,val:=v }) clock))/\es[j]?=some e/\e.key=sg sk x:=by
 rcases a.find w x hx es.toList h with ⟨h1,h2⟩ | ⟨j,e,h1,h2,d⟩
 ·refine .inl ⟨?_,h2⟩;simp only [Instr.mapUpdate,aD,a7 hm,aw,da c,a.check w false x hx,h1,oP _ c];rfl
 ·refine .inr ⟨j,e,?_,by simpa using h2,d⟩;have h2':es[j]?=some e:=by simpa using h2
  simp only [Instr.mapUpdate,aD,a7 hm,aw,da c,a.check w false x hx,h1,h2',bJ,pU,d,a.stays w x hx,oP _ c];rfl
end
open Go
section
variable {Γ:cr} {T:eX} (hT:T.OK Γ.P) {C:FuncId->List AV->AV->Prop} {bx:List (Nat×List AV)} {e:Operand->AV} {K:AV->Prop} {o:Oper} {a:Act} {w:World} {c:dM} {ty:TypeId}
theorem Y6 {x} (h:gM T C bx e ty (.move x) K) (d:o.op = .move x) (b:RC c (e x) (a.eval x)):ge Γ c a w o K:=
 ⟨_,_,by simp only [execOp,d]; rfl,b,h⟩
theorem SW {x} (h:gM T C bx e ty (.assign x) K) (d:o.op = .assign x) (b:RC c (e x) (a.eval x)):ge Γ c a w o K:=
 ⟨_,_,by simp only [execOp,d]; rfl,b,h⟩
theorem Y5 {x y z} (h:gM T C bx e ty (.pick x y z) K) (b:o.op = .pick x y z) (hx:RC c (e x) (a.eval x)) (hy:RC c (e y) (a.eval y)) (hz:RC c (e z) (a.eval z)):ge Γ c a w o K:=by
 unfold gM at h;simp only at h;split at h
 ·rename_i t d;rw [d] at hx
  cases t with
  | true=>exact ⟨a.eval y,_,by simp [execOp,b,hx.bool,asBool],hy,h⟩
  | false=>exact ⟨a.eval z,_,by simp [execOp,b,hx.bool,asBool],hz,h⟩
 ·exact h.elim
include hT in
theorem WD {op} {t t'} {x y} (h:gM T C bx e ty (.binOp op t x y t') K) (b:o.op = .binOp op t x y t') (hx:RC c (e x) (a.eval x)) (hy:RC c (e y) (a.eval y)):ge Γ c a w o K:=by
 obtain ⟨r,z,h1,h2,d⟩:=UP hT (p:=x) (q:=y) (w:=w) (show yI T op t (e x) (e y) K from h) hx hy;refine ⟨r,z,?_,h2,d⟩;simp only [execOp,b,aD] at h1 ⊢;rw [h1]; rfl
theorem Y4 {op} {t} {x} (h:gM T C bx e ty (.unOp op t x) K) (b:o.op = .unOp op t x) (hx:RC c (e x) (a.eval x)):ge Γ c a w o K:=by
 obtain ⟨r,z,h1,h2,d⟩:=WK (Γ:=Γ) (w:=w) (show unW op (e x) K from h) hx;exact ⟨r,z,by simp only [execOp,b,aD,h1]; rfl,h2,d⟩
theorem lk {m} {k b off} {cs} {v} (h:RD m (.pin k b off cs) v):v = .pointer (some ⟨b,off,none⟩)/\RD m (.ref cs) (.pointer (some ⟨b,off,none⟩)):=by
 cases h with | pin _ _ _ _ f g hm d=>exact ⟨rfl,.ref _ _ _ f g hm d⟩
theorem RD.ref_pin {m} {b off} {cs} (k) (h:RD m (.ref cs) (.pointer (some ⟨b,off,none⟩))):RD m (.pin k b off cs) (.pointer (some ⟨b,off,none⟩)):=by
 cases h with | ref _ _ _ f g hm d=>exact .pin _ _ _ _ f g hm d
include hT in
theorem Y7 {t} {x} (q:WI Γ c bx w) (h:gM T C bx e ty (.load t x) K) (r:o.op = .load t x) (hx:RC c (e x) (a.eval x)):ge Γ c a w o K:=by
 unfold gM at h;simp only at h;split at h
 ·exact h.elim
 ·rename_i i hi;split at h
  ·rename_i d off hl;split at h
   ·rename_i cs p;split at h
    ·rename_i v hv;rw [hl] at hx;obtain ⟨vals,g1,g2,g3,g4⟩:=C7 q p off;obtain ⟨u,l,j⟩:=jY hT hi g1 g2 g3 g4 hv;refine ⟨u,v,?_,j,h⟩;simp only [execOp,r,hx.loc,aD,Instr.loadAt,Instr.sureAddr,aL,aw,l]
    ·exact h.elim
   ·exact h.elim
  ·rename_i cs hl;split at h
   ·rename_i v hv;rw [hl] at hx;have hx':RD c.m (.ref cs) (a.eval x):=hx;have f:=hx';generalize n:a.eval x=z at hx' f
    cases hx' with
    | ref _ b off A g hm y=>
     obtain ⟨vals,g1,g2,g3,g4⟩:=wB q.sub f;obtain ⟨u,l,j⟩:=jY hT hi g1 g2 g3 g4 hv;refine ⟨u,v,?_,j,h⟩;grind [execOp,Sem.run_bind,Instr.loadAt,Instr.sureAddr,Sem.run_pure,Result.andThen_ok]
   ·exact h.elim
  ·rename_i k b off cs hl;split at h
   ·rename_i v hv;rw [hl] at hx;obtain ⟨n,f⟩:=lk (show RD c.m (.pin k b off cs) (a.eval x) from hx);obtain ⟨vals,g1,g2,g3,g4⟩:=wB q.sub f;obtain ⟨u,l,j⟩:=jY hT hi g1 g2 g3 g4 hv;refine ⟨u,v,?_,j,h⟩;grind [execOp,Sem.run_bind,Instr.loadAt,Instr.sureAddr,Sem.run_pure,Result.andThen_ok]
   ·exact h.elim
  ·exact h.elim
theorem Me {x} (h:gM T C bx e ty (.nilCheck x) K) (f:o.op = .nilCheck x) (hx:RC c (e x) (a.eval x)):ge Γ c a w o K:=by
 unfold gM at h;simp only at h;split at h
 ·rename_i d off hl;rw [hl] at hx;refine ⟨_,_,?_,hx,h⟩;simp only [execOp,f,hx.loc,aL,aw]
 ·rename_i cs hl;rw [hl] at hx;have hx':RD c.m (.ref cs) (a.eval x):=hx
  obtain ⟨b,i,hv⟩:∃ b off,a.eval x = .pointer (some ⟨b,off,none⟩):=by
   generalize a.eval x=v at hx';cases hx' with | ref _ b off=>exact ⟨b,off,rfl⟩
  refine ⟨_,_,?_,hx,h⟩;simp only [execOp,f,hv,aL,aw]
 ·rename_i k b off cs hl;rw [hl] at hx;obtain ⟨hv,_⟩:=lk (show RD c.m (.pin k b off cs) (a.eval x) from hx);refine ⟨_,_,?_,hx,h⟩;simp only [execOp,f,hv,aL,aw]
 ·exact h.elim
theorem RD.ref_inv {m} {cs} {v} (h:RD m (.ref cs) v):∃ b off,v = .pointer (some ⟨b,off,none⟩):=by
 cases h with | ref _ b off=>exact ⟨b,off,rfl⟩
theorem RD.ref_drop {m} {cs} {b off} (h:RD m (.ref cs) (.pointer (some ⟨b,off,none⟩))) (k):RD m (.ref (cs.drop k)) (.pointer (some ⟨b,off+k,none⟩)):=by
 cases h with
 | ref _ _ _ d g hm f=>
  refine .ref _ _ _ (fun x hx=>d x (gn hx)) (fun i=>g (k+i)) (fun i x hi=>?_) (fun i x hi=>?_)
  ·grind
  grind
include hT in
theorem kw {ft} {j} (hj:get T ft=some j) (d:Nat.beq j.size 0=false) {f} (hf:f.type=ft) (b off):(fieldPlace ⟨b,off,none⟩ f).run Γ.P w = .ok ⟨b,off+f.offset,none⟩ w:=by
 have i:j.size≠0:=fun h=>by rw [h] at d; cases d
 simp only [fieldPlace,hf,aD,eU hT hj,aw,aY i,aL,fu]
include hT in
theorem HW {t} {x} {f} (h:gM T C bx e ty (.fieldAddr t x f) K) (r:o.op = .fieldAddr t x f) (hx:RC c (e x) (a.eval x)):ge Γ c a w o K:=by
 unfold gM at h;simp only at h;split at h
 ·exact h.elim
 rename_i i hi
 cases hk:Nat.beq i.kind 1 with
 | false=>grind
 | true=>
  rw [hk] at h;simp only [aP] at h;obtain ⟨z,hu,u⟩:=oX hT hi (ak hk);split at h
  ·exact h.elim
  rename_i off ft y;rw [fp,u,aT] at y;obtain ⟨fd,v,q⟩:=aA.1 y;simp only [ew] at q;obtain ⟨rfl,rfl⟩:=q;have hfd':z[f]?=some fd:=by simpa using v
  split at h
  ·exact h.elim
  rename_i j hj
  cases p:Nat.beq j.size 0 with
  | true=>grind
  | false=>
   rw [p] at h;simp only [bq] at h;split at h
   ·rename_i d l hl;rw [hl] at hx;refine ⟨.pointer (some ⟨c.ρ d,l+fd.offset,none⟩),.loc d (l+fd.offset),?_,rfl,h⟩;simp only [execOp,r,hx.loc,Instr.fieldAt,aD,a7 hu,aw,hfd',Instr.sureAddr,aL,kw hT hj p rfl]
   ·rename_i cs hl;rw [hl] at hx;have n:RD c.m (.ref cs) (a.eval x):=hx;obtain ⟨b,l,hv⟩:=n.ref_inv;rw [hv] at n;refine ⟨.pointer (some ⟨b,l+fd.offset,none⟩),.ref (cs.drop fd.offset),?_,n.ref_drop fd.offset,h⟩;simp only [execOp,r,hv,Instr.fieldAt,aD,a7 hu,aw,hfd',Instr.sureAddr,aL,kw hT hj p rfl]
   ·rename_i k b l cs hl;rw [hl] at hx;obtain ⟨hv,n⟩:=lk (show RD c.m (.pin k b l cs) (a.eval x) from hx);refine ⟨.pointer (some ⟨b,l+fd.offset,none⟩),.pin k b (l+fd.offset) (cs.drop fd.offset),?_,(n.ref_drop fd.offset).ref_pin k,h⟩;simp only [execOp,r,hv,Instr.fieldAt,aD,a7 hu,aw,hfd',Instr.sureAddr,aL,kw hT hj p rfl]
   ·exact h.elim
include hT in
theorem Is {t} {i} (g:get T t=some i) {vs} {cs:List AV} {off} (hl:cs.length=vs.size) (n:∀ x∈cs,x.isCell=true) (q:∀ (i:Nat) (x:AV) (u:Value),cs[i]?=some x->vs[i]?=some u->fD c x u)
  (r:off+i.size<=cs.length) {x} (h:eS i (cs.drop off)=some x):∃ v,(part t vs off).run Γ.P w = .ok v w/\RC c x v:=by
 unfold eS at h;have d:=OD hT g w
 cases hk:(Nat.beq i.kind 1||Nat.beq i.kind 2) with
 | true=>
  rw [hk] at h d;simp only [aP] at h
  cases m:Nat.ble i.size (cs.drop off).length with
  | false=>rw [m] at h; cases h
  | true=>
   rw [m] at h;simp only [aP,aB] at h;refine ⟨.agg (vs.extract off (off+i.size)),by simp only [part,aD,d,aw,cR,eU hT g,aL],?_⟩;subst h;refine ⟨_,rfl,by simp; omega,fun y hy=>n y (gn (dN hy)),fun j y u h1 h2=>?_⟩;grind
 | false=>
  rw [hk] at h d;simp only [bq] at h;split at h
  ·rename_i y z p;simp only [aB] at h;subst h
   have f:cs[off]?=some y:=by
    have:=ax (fun l=>l[0]?) p;simpa [cB] using this
   have b:off<vs.size:=by have:=(aq.1 f).1; omega
   refine ⟨vs[off],by simp only [part,aD,d,aw,br,cv,aE b,aL],?_⟩;have h1:=q off y _ f (aE b);refine (eD ?_).2 h1;rintro ds rfl;exact absurd (n _ (aC f)) (by simp [AV.isCell])
  ·cases h
include hT in
theorem WB {t} {x} {f} (h:gM T C bx e ty (.field t x f) K) (y:o.op = .field t x f) (hx:RC c (e x) (a.eval x)):ge Γ c a w o K:=by
 unfold gM at h;simp only at h;split at h
 ·exact h.elim
 rename_i i hi
 cases hk:Nat.beq i.kind 1 with
 | false=>grind
 | true=>
  rw [hk] at h;simp only [aP] at h;obtain ⟨z,hu,d⟩:=oX hT hi (ak hk);split at h
  ·exact h.elim
  rename_i off ft r;rw [fp,d,aT] at r;obtain ⟨fd,p,b⟩:=aA.1 r;simp only [ew] at b;obtain ⟨rfl,rfl⟩:=b;have hfd':z[f]?=some fd:=by simpa using p
  split at h
  ·exact h.elim
  rename_i j hj;split at h
  ·rename_i cs hl
   cases q:Nat.ble (fd.offset+j.size) cs.length with
   | false=>grind
   | true=>
    rw [q] at h;simp only [aP] at h;split at h
    ·rename_i v hv;rw [hl] at hx;obtain ⟨vs,n,A,D,B⟩:=hx;obtain ⟨u,l,m⟩:=Is hT (w:=w) hj A D B (ah q) hv;refine ⟨u,v,?_,m,h⟩;simp only [execOp,y,n,Instr.field,aD,a7 hu,aw,hfd',asAgg,aL,l]
    ·exact h.elim
  ·exact h.elim
end
open Go
section
variable {Γ:cr} {T:eX} (hT:T.OK Γ.P) {C:FuncId->List AV->AV->Prop} {bx:List (Nat×List AV)} {e:Operand->AV} {K:AV->Prop} {o:Oper} {a:Act} {w:World} {c:dM} {ty:TypeId}
theorem mG {size sz} {xs} {K} (h:szOK size sz xs K):K/\(size=sz\/xs=[]):=by
 unfold szOK at h
 cases b:Nat.beq size sz with
 | true=>grind [Nat.eq_of_beq_eq_true]
 | false=>
  grind
theorem RD.elem {m} {o} {sz} {xs} {v} (h:RD m (.sl o sz xs) v):∃ base len cap,v = .slice base len cap/\xs.length=len /\
  ∀ i cs,xs[i]?=some cs->∃ b off,base=some ⟨b,off,none⟩/\RD m (.ref cs) (.pointer (some ⟨b,off+i*sz,none⟩)):=by
 cases h with
 | sl _ _ _ base len cap p hf hl q n d b off l g hm f=>
  refine ⟨base,len,cap,rfl,hl,fun i cs hi=>⟨b,off,l (by grind),?_⟩⟩;exact .ref cs _ _ (fun x hx=>d cs (aC hi) x hx) (fun j=>g i j) (fun j x hj=>hm i cs j x hi hj) (fun j x hj=>f i cs j x hi hj)
theorem qY {α:Type} {sz:Nat}:∀ {xs:List (List α)} {k:Nat} {c:α},(∀ x∈xs,x.length=sz)->xs.flatten[k]?=some c->∃ x,xs[k / sz]?=some x/\x[k % sz]?=some c
 | [],k,c,_,h=>by simp at h
 | x::r,k,c,hl,h=>by
  have hx:=hl x aW;rw [List.flatten_cons] at h;by_cases hk:k<sz
  ·rw [cL am] at h;exact ⟨x,by rw [Nat.div_eq_of_lt hk]; rfl,by rw [lO hk]; exact h⟩
  ·rw [bM am,hx] at h;obtain ⟨y,h1,h2⟩:=qY (fun z hz=>hl z (aS _ hz)) h
   have b:0<sz:=by
    refine Nat.pos_of_ne_zero fun e=>?_;subst e;have:=(aq.1 h2).1;rw [hl y (aS _ (aC h1))] at this;omega
   grind [Nat.div_eq_sub_div,List.getElem?_cons_succ,Nat.mod_eq_sub_mod]
include hT in
theorem Wy {t} {x} (h:gM T C bx e ty (.sliceToArrayPointer t x) K) (u:o.op = .sliceToArrayPointer t x) (hx:RC c (e x) (a.eval x)):ge Γ c a w o K:=by
 unfold gM at h;simp only at h;split at h
 ·exact h.elim
 rename_i i hi;split at h
 ·rename_i E sz xs l;rw [l] at hx
  cases hk:Nat.beq i.kind 2 with
  | false=>grind
  | true=>
   rw [hk] at h;simp only [aP] at h;obtain ⟨⟨D,h1⟩,h⟩:=h;have hu:=ld hT hi (ak hk);have hx':RD c.m (.sl .no sz xs) (a.eval x):=fD.sl_no ((eD (by intro cs p; cases p)).1 hx);generalize hv:a.eval x=v at hx'
   cases hx' with
   | sl _ _ _ base len cap B hf hl p j f b off r g hm A=>
    have d:=r am;subst d;refine ⟨.pointer (some ⟨b,off,none⟩),.ref xs.flatten,?_,.ref _ _ _ (fun y hy=>?_) (fun k=>g (k / sz) (k % sz)) (fun k y hy=>?_) (fun k y hy=>?_),h⟩
    ·simp only [execOp,u,hv,Instr.arrayAt,aD,a7 hu,aw];rw [aY am];rfl
    ·obtain ⟨z,hz,hy⟩:=List.mem_flatten.1 hy;exact f z hz y hy
    ·obtain ⟨z,n,q⟩:=qY j hy;grind [Nat.add_assoc,Nat.mul_comm,Nat.div_add_mod]
    ·obtain ⟨z,n,q⟩:=qY j hy;exact A _ z _ y n q
 ·exact h.elim
include hT in
theorem HV {t} {x y} (h:gM T C bx e ty (.indexAddr t x y) K) (v:o.op = .indexAddr t x y) (hx:RC c (e x) (a.eval x)) (hy:RC c (e y) (a.eval y)):ge Γ c a w o K:=by
 unfold gM at h;simp only at h;split at h
 ·exact h.elim
 rename_i i hi;split at h
 ·exact h.elim
 rename_i j hj;split at h
 ·rename_i k n A;rw [A] at hy;split at h
  ·rename_i D sz xs r;rw [r] at hx
   cases hk:Nat.beq i.kind 3 with
   | false=>grind
   | true=>
    rw [hk] at h;simp only [aP] at h;have hu:=ee hT hi (ak hk);obtain ⟨⟨l,cs,p,h⟩,f⟩:=mG h;have hx':RD c.m (.sl .no sz xs) (a.eval x):=fD.sl_no ((eD (by intro cs B; cases B)).1 hx);obtain ⟨base,len,cap,hv,hlen,u⟩:=hx'.elem;obtain ⟨b,off,rfl,z⟩:=u n.toNat cs p;have q:n.toNat<xs.length:=(aq.1 p).1
    have hsz':j.size=sz:=by
     rcases f with f | f
     ·exact f
     ·subst f; simp at q
    refine ⟨.pointer (some ⟨b,off+n.toNat*sz,none⟩),.ref cs,?_,z,h⟩;simp only [execOp,v,hv,hy.int,Instr.indexAt,asIntOf,aD,aL,aw,a7 hu];rw [aV ⟨l,by omega⟩];grind [Sem.run_bind,eU,Result.andThen_ok,Sem.run_pure,fu]
  ·rename_i d off hl;rw [hl] at hx
   cases hk:Nat.beq i.kind 2 with
   | false=>grind
   | true=>
    rw [hk] at h;simp only [aP] at h;have hu:=ld hT hi (ak hk);obtain ⟨l,h1,h⟩:=h;refine ⟨.pointer (some ⟨c.ρ d,off+n.toNat*j.size,none⟩),.loc d (off+n.toNat*j.size),?_,rfl,h⟩;simp only [execOp,v,hx.loc,hy.int,Instr.indexAt,asIntOf,aD,aL,aw,a7 hu,Instr.sureAddr];rw [aV ⟨l,h1⟩];simp only [aD,eU hT hj,aw,aL,fu]
  ·rename_i cs hl;rw [hl] at hx
   cases hk:Nat.beq i.kind 2 with
   | false=>grind
   | true=>
    rw [hk] at h;simp only [aP] at h;have hu:=ld hT hi (ak hk);obtain ⟨l,h1,h⟩:=h;have hx':RD c.m (.ref cs) (a.eval x):=hx;obtain ⟨b,off,hv⟩:=hx'.ref_inv;rw [hv] at hx';refine ⟨.pointer (some ⟨b,off+n.toNat*j.size,none⟩),.ref (cs.drop (n.toNat*j.size)),?_,hx'.ref_drop _,h⟩;simp only [execOp,v,hv,hy.int,Instr.indexAt,asIntOf,aD,aL,aw,a7 hu,Instr.sureAddr];rw [aV ⟨l,h1⟩];simp only [aD,eU hT hj,aw,aL,fu]
  ·exact h.elim
 ·exact h.elim
include hT in
theorem WA {t} {x y} (h:gM T C bx e ty (.index t x y) K) (l:o.op = .index t x y) (hx:RC c (e x) (a.eval x)) (hy:RC c (e y) (a.eval y)):ge Γ c a w o K:=by
 unfold gM at h;simp only at h;split at h
 ·exact h.elim
 rename_i i hi;split at h
 ·exact h.elim
 rename_i j hj;split at h
 ·rename_i k n cs q b;rw [q] at hy;rw [b] at hx
  cases hk:Nat.beq i.kind 2 with
  | false=>grind
  | true=>
   rw [hk] at h;simp only [aP] at h;have hu:=ld hT hi (ak hk);obtain ⟨p,h1,h2,h⟩:=h;split at h
   ·rename_i v hv;obtain ⟨vs,f,r,A,z⟩:=hx;obtain ⟨u,m,d⟩:=Is hT (w:=w) hj r A z h2 hv;refine ⟨u,v,?_,d,h⟩;simp only [execOp,l,f,hy.int,Instr.index,asIntOf,aD,aL,aw,a7 hu];rw [aV ⟨p,h1⟩];grind [Sem.run_bind,eU,Result.andThen_ok]
   ·exact h.elim
 ·exact h.elim
theorem PS {x} {n} (h:gM T C bx e ty (.extract x n) K) (l:o.op = .extract x n) (hx:RC c (e x) (a.eval x)):ge Γ c a w o K:=by
 unfold gM at h;simp only at h;split at h
 ·rename_i vs d;rw [d] at hx;split at h
  ·rename_i v hv;have hx':RD c.m (.tup vs) (a.eval x):=hx;rw [fp] at hv;generalize f:a.eval x=p at hx'
   cases hx' with
   | tup _ us hl i=>
    have b:n<us.size:=by have:=(aq.1 hv).1; omega
    have j:=aE b;refine ⟨us[n],v,?_,RC.of_RD (i n v _ hv j),h⟩;grind [execOp,Instr.extract,Sem.run_bind,Sem.run_pure,Result.andThen_ok]
  ·exact h.elim
 ·exact h.elim
include hT in
theorem PT {s d} {x} (h:gM T C bx e ty (.convert s d x) K) (f:o.op = .convert s d x) (hx:RC c (e x) (a.eval x)):ge Γ c a w o K:=by
 unfold gM at h;simp only at h;split at h
 ·rename_i i j hi hj;split at h
  ·rename_i k n m;rw [m] at hx
   cases hk:Nat.beq j.kind 4 with
   | false=>grind
   | true=>
    rw [hk] at h;simp only [aP] at h;have hu:=OC hT hj (ak hk);obtain ⟨p,l,_,b,_⟩:=eo hT hi;refine ⟨.int j.ik (j.ik.wrap n),_,?_,eC _ _,h⟩;simp only [execOp,f,hx.int,convert,aD,a7 b,a7 hu,aw];cases l <;> simp [Conv.intToInt]
  ·exact h.elim
 ·exact h.elim
theorem xS {big:Bool} {k:IntKind}:∀ (cs:List AV) (us:List Value) (x z:Int),mu big k x cs=some z->cs.length=us.length->(∀ (i:Nat) (y:AV) (u:Value),cs[i]?=some y->us[i]?=some u->RC c y u) ->
  (us.foldlM (if big then Builtin.max2 else Builtin.min2) (.int k x)).run Γ.P w = .ok (.int k z) w
 | [],us,x,z,h,hl,_=>by
  simp only [mu,aB] at h
  cases us with
  | nil=>simp [h]
  | cons _ _=>cases hl
 | y::r,us,x,z,h,hl,b=>by
  cases us with
  | nil=>cases hl
  | cons u us=>
   cases y with
   | int k' n=>
    simp only [mu] at h;have hu:=(b 0 _ u rfl rfl).int;subst hu;have d:=xS r us _ z h (by simpa using hl) (fun i y u h1 h2=>b (i+1) y u h1 h2)
    cases big with
    | true=>
     simp only [cR,aP,List.foldlM_cons,aD,Builtin.max2,aL,aw] at d ⊢;grind
    | false=>
     simp only [br,cv,bq,List.foldlM_cons,aD,Builtin.min2,aL,aw] at d ⊢;grind
   | _=>cases h
end
open Go
section
variable {Γ:cr} {T:eX} (hT:T.OK Γ.P) {C:FuncId->List AV->AV->Prop} {bx:List (Nat×List AV)} {e:Operand->AV} {K:AV->Prop} {o:Oper} {a:Act} {w:World} {c:dM} {ty:TypeId}
theorem ec {b} {args} {ts} {t}:(resolve a.eval { callee := .builtin b,args:=args,argTypes:=ts } t).run Γ.P w =
  .ok { target := .builtin b ts t (args.map fun | .const _=>true | _=>false),args:=args.map a.eval } w:=rfl
include hT in
theorem aau {args} {d} (h:gM T C bx e ty (.call { callee := .builtin .len,args:=args,argTypes:=d }) K) (q:o.op = .call { callee := .builtin .len,args:=args,argTypes:=d })
  (p:∀ x∈args.toList,RC c (e x) (a.eval x)):ge Γ c a w o K:=by
 unfold gM at h;simp only at h;split at h
 ·rename_i x t hx l;obtain ⟨args⟩:=args;obtain ⟨d⟩:=d;simp only at hx l;subst hx;subst l;have hx:=p x dc
  have b:∀ v u,(Builtin.len_ #[t] o.type #[a.eval x]).run Γ.P w = .ok v w->u=v->(execOp a.eval o).run Γ.P w = .ok (.value u) w:=by
   intro v u hv f;subst f;simp only [execOp,q,aD,ec,aw,invoke,builtin];simp only [eE,cp,eZ,hv,aw,aL]
  split at h
  ·exact h.elim
  rename_i i hi
  have n:∀ hk:Nat.beq i.kind 2=true,K (.int .i64 i.arr)->ge Γ c a w o K:=by
   intro hk h;have hu:=ld hT hi (ak hk);refine ⟨.int .i64 i.arr,_,b _ _ ?_ rfl,eC _ _,h⟩;simp [Builtin.len_,a7 hu,goInt]
  split at h
  ·rename_i y sz xs j;rw [j] at hx
   cases hk:Nat.beq i.kind 3 with
   | false=>grind
   | true=>
    rw [hk] at h;have hu:=ee hT hi (ak hk);have hx':RD c.m (.sl .no sz xs) (a.eval x):=fD.sl_no ((eD (by intro cs r; cases r)).1 hx);obtain ⟨base,len,cap,hv,hlen,_⟩:=hx'.elem;refine ⟨.int .i64 len,.int .i64 xs.length,b _ _ ?_ rfl,by rw [hlen]; exact eC _ _,h⟩;rw [hv];simp [Builtin.len_,a7 hu,goInt]
  grind
 ·exact h.elim
theorem HU {big:Bool} {args} {ts} (h:gM T C bx e ty (.call { callee := .builtin (if big then .max else .min),args:=args,argTypes:=ts }) K) (l:o.op = .call { callee := .builtin (if big then .max else .min),args:=args,argTypes:=ts })
  (j:∀ x∈args.toList,RC c (e x) (a.eval x)):ge Γ c a w o K:=by
 obtain ⟨args⟩:=args;simp only at j
 have key:∀ (k:IntKind) (x:Int) (r:List AV),args.map e = .int k x::r->∀ z,mu big k x r=some z->K (.int k z)->ge Γ c a w o K:=by
  intro k x r hl z hz n;clear h
  cases args with
  | nil=>cases hl
  | cons y m=>
   simp only [cp,gG] at hl;obtain ⟨f,d⟩:=hl;have hy:=j y (aW ..);rw [f] at hy
   have b:=xS (Γ:=Γ) (w:=w) (c:=c) r (m.map a.eval) x z hz (by rw [<- d]; simp) (fun i q u h1 h2=>by
    grind)
   refine ⟨.int k z,_,?_,eC _ _,n⟩;simp only [execOp,l,aD,ec,aw,invoke]
   cases big with
   | true=>
    simp only [cR] at b ⊢;simp only [builtin,Builtin.max_,eE,cp,hy.int,aD,b,aw,aL]
   | false=>
    simp only [br,cv] at b ⊢;simp only [builtin,Builtin.min_,eE,cp,hy.int,aD,b,aw,aL]
 unfold gM at h;grind
theorem RD.part {m} {o} {sz} {xs} {base} {len cap} (h:RD m (.sl o sz xs) (.slice base len cap)) {l k mx} (hl:l<=k) (hk:k<=xs.length) (hm:k<=mx) (q:mx<=cap)
  {o'} (f:∀ j,o'≠.id j) (n:o' = .full->mx=k) :
  RD m (.sl o' sz ((xs.take k).drop l)) (.slice (if mx=l then base else base.map (·.add (l*sz))) (k - l) (mx - l)):=by
 cases h with
 | sl _ _ _ _ _ _ v hf hlen B u p b off t g A r=>
  have d:∀ i x,((xs.take k).drop l)[i]?=some x->xs[l+i]?=some x:=by
   intro i x hx;rw [cB,dj] at hx;split at hx
   ·exact hx
   ·cases hx
  refine .sl _ _ _ _ _ _ f (fun h=>by rw [n h]) (by simp; omega) am (fun x hx=>?_) (fun x hx=>?_) b (off+l*sz) (fun z=>?_) (fun i j=>g (l+i) j) (fun i x j y h1 h2=>?_) (fun i x j y h1 h2=>r (l+i) x j y (d i x h1) h2)
  ·grind
  ·grind
  ·rw [aY am,t am];simp only [bJ,fu]
  grind
theorem xa {v} {n} {k} (hv:v = .int k n) {y} {code} (b:0<=n) (h1:n.toNat<=y):(Instr.sliceBound v y code).run Γ.P w = .ok n.toNat w:=by
 subst hv;simp only [Instr.sliceBound,asIntOf,aD,aL,aw];rw [aV ⟨b,by omega⟩];rfl
theorem xY {len cap l k} {lo hi} (hk:match hi with | none=>k=len | some v=>∀ code,(Instr.sliceBound v cap code).run Γ.P w = .ok k w)
  (hl:match lo with | none=>l=0 | some v=>∀ code,(Instr.sliceBound v k code).run Γ.P w = .ok l w):(Instr.sliceBounds true len cap lo hi none).run Γ.P w = .ok (l,k,cap) w:=by
 cases hi with
 | none=>
  subst hk;cases lo <;> simp only at hl <;> simp [Instr.sliceBounds,hl]
 | some v=>cases lo <;> simp only at hk hl <;> simp [Instr.sliceBounds,hk,hl]
theorem Jt {len cap l k m} {lo} {u v} (hm:∀ code,(Instr.sliceBound v cap code).run Γ.P w = .ok m w) (hk:∀ code,(Instr.sliceBound u m code).run Γ.P w = .ok k w)
  (hl:match lo with | none=>l=0 | some v=>∀ code,(Instr.sliceBound v k code).run Γ.P w = .ok l w):(Instr.sliceBounds true len cap lo (some u) (some v)).run Γ.P w = .ok (l,k,m) w:=by
 cases lo <;> simp only at hl <;> simp [Instr.sliceBounds,hm,hk,hl]
include hT in
theorem Wz {t} {x} {lo hi mx} (h:gM T C bx e ty (.slice t x lo hi mx) K) (ho:o.op = .slice t x lo hi mx) (hx:RC c (e x) (a.eval x)) (M:∀ y,lo=some y->RC c (e y) (a.eval y))
  (H:∀ y,hi=some y->RC c (e y) (a.eval y)) (G:∀ y,mx=some y->RC c (e y) (a.eval y)):ge Γ c a w o K:=by
 unfold gM at h;simp only at h;split at h
 ·exact h.elim
 rename_i i F;split at h
 ·exact h.elim
 rename_i j hj;split at h
 ·rename_i ow sz xs E;rw [E] at hx
  cases hk:Nat.beq i.kind 3 with
  | false=>grind
  | true=>
   rw [hk] at h;simp only [aP] at h;have hu:=ee hT F (ak hk);obtain ⟨h,b⟩:=mG h;have hx':RD c.m (.sl .no sz xs) (a.eval x):=fD.sl_no ((eD (by intro cs hc; cases hc)).1 hx);have hx'':=hx';obtain ⟨base,len,cap,hv,hlen,_⟩:=hx'.elem;rw [hv] at hx'';have U:len<=cap:=by cases hx'' with | sl=>assumption
   -- the bounds
   have u:∀ (f:Option Operand) (d:Nat) (K':Nat->Prop),(∀ y,f=some y->RC c (e y) (a.eval y))->jZ (f.map e) d K' ->
     ∃ n,K' n/\(∀ (y:Nat) (code:BoundsCode),n<=y->∀ v,f.map a.eval=some v->(Instr.sliceBound v y code).run Γ.P w = .ok n w)/\(f.map a.eval=none->n=d)/\(f=none↔f.map a.eval=none):=by
    intro f d K' hr r
    cases f with
    | none=>exact ⟨d,r,by simp,fun _=>rfl,by simp⟩
    | some y=>
     simp only [bJ,jZ] at r;split at r
     ·grind
     ·rename_i k n hy;simp only [aB] at hy;have:=hr y rfl;rw [hy] at this;refine ⟨n.toNat,r.2,fun z code hz v hv=>?_,by simp,by simp⟩;simp only [bJ,aB] at hv;exact xa (hv ▸ this.int) r.1 hz
     ·exact r.elim
   obtain ⟨l,h,hl1,Z,_⟩:=u lo 0 _ M h;obtain ⟨k,h,D,X,hk3⟩:=u hi xs.length _ H h
   have fin:∀ m:Nat,l<=k->k<=xs.length->k<=m->m<=cap->(Instr.sliceBounds true len cap (lo.map a.eval) (hi.map a.eval) (mx.map a.eval)).run Γ.P w = .ok (l,k,m) w ->
     ∀ o',(∀ j,o'≠Own.id j)->(o' = .full->m=k)->K (.sl o' sz ((xs.take k).drop l))->ge Γ c a w o K:=by
    intro m g1 g2 g3 g4 B o' J N A;have hp:=hx''.part g1 g2 g3 g4 J N;refine ⟨_,_,?_,RC.of_RD hp,A⟩
    have p:(if m=l then base else base.map (·.add (l*j.size)))=(if m=l then base else base.map (·.add (l*sz))):=by
     rcases b with b | b
     ·rw [b]
     ·subst b;simp at g2;obtain rfl:k=0:=g2;obtain rfl:l=0:=by omega
      simp
    simp only [execOp,ho,hv,Instr.sliceAt,aD,a7 hu,aw,Instr.slice,B,eU hT hj,aL,p]
   split at h
   ·rename_i hm;obtain ⟨g1,g2,A⟩:=h;have L:mx=none:=by cases mx <;> simp at hm ⊢
    subst L;refine fin cap g1 g2 am (ba _) ?_ .no (by intro j hj; cases hj) (by intro hh; cases hh) A;refine xY ?_ ?_
    ·grind
    grind
   ·rename_i km m hm
    cases hi with
    | none=>exact h.elim
    | some z=>
    simp only [Option.isSome_some,aP] at h;obtain ⟨g1,g2,g3,A⟩:=h
    cases mx with
    | none=>cases hm
    | some q=>
     simp only [bJ,aB] at hm;have Q:=G q rfl;rw [hm] at Q;have hmk:m.toNat=k:=by omega
     refine fin k g1 g2 (ba _) am ?_ .full (by intro j hj; cases hj) (fun _=>rfl) A;refine Jt (fun code=>?_) (fun code=>D _ code (ba k) _ rfl) ?_
     ·have:=xa (Γ:=Γ) (w:=w) (code:=code) Q.int am (show m.toNat<=cap by omega);grind
     grind
   ·exact h.elim
 ·exact h.elim
end
open Go
section
variable {Γ:cr} {T:eX} (hT:T.OK Γ.P) {C:FuncId->List AV->AV->Prop} {bx:List (Nat×List AV)} {e:Operand->AV} {K:AV->Prop} {o:Oper} {a:Act} {w:World} {c:dM} {ty:TypeId}
theorem RD.cst (m) (v):RD m (cst v) v:=by
 unfold AI.cst;split
 ·exact .int _ _
 ·exact .bool _
 ·exact .str _
 ·exact .lit _ rfl rfl
 ·exact .lit _ rfl rfl
 ·exact .lit _ rfl rfl
 ·exact .lit _ rfl rfl
 ·exact .sl .full 0 [] none 0 0 (by intro k hk; cases hk) (fun _=>rfl) rfl (ba _) dc dc 0 0 am (fun _ _=>Go.undef) dc dc
 ·exact .junk _
def mj (c:dM) (cs:List AV) (vs:Array Value):Prop:=cs.length=vs.size/\∀ (i:Nat) (x:AV) (u:Value),cs[i]?=some x->vs[i]?=some u->fD c x u
theorem ez {α:Type}:∀ (l:List α) (n:Nat) (v:α) (i:Nat),(dB l n v)[i]?=if n=i/\i<l.length then some v else l[i]?
 | [],n,v,i=>by simp [dB]
 | x::r,0,v,i=>by cases i <;> simp [dB]
 | x::r,n+1,v,i=>by
  cases i with
  | zero=>simp [dB]
  | succ i=>simp only [dB,fk,ez r n v i,bu]; congr 1; simp
theorem uk {α:Type}:∀ (l:List α) (n:Nat) (v:α),(dB l n v).length=l.length
 | [],n,v=>by simp [dB]
 | x::r,0,v=>by simp [dB]
 | x::r,n+1,v=>by simp [dB,uk r n v]
theorem mj.set {cs} {vs} (h:mj c cs vs) {x} {u} (hx:fD c x u) (n):mj c (dB cs n x) (vs.setIfInBounds n u):=by
 refine ⟨by simp [uk,h.1],fun i y q h1 h2=>?_⟩;rw [ez] at h1;rw [dx] at h2;by_cases b:n=i
 ·grind
 ·rw [aY (fun d=>b d.1)] at h1;rw [aY b] at h2;exact h.2 i y q h1 h2
theorem mj.setMany:∀ {ds:List AV} {us:List Value} {cs:List AV} {vs:Array Value} (_:mj c cs vs) (_:ds.length=us.length) (_:∀ (i:Nat) (x:AV) (u:Value),ds[i]?=some x->us[i]?=some u->fD c x u) (off:Nat),
  mj c (setMany cs off ds) ((us.zipIdx.foldl (fun cs (c,j)=>cs.setIfInBounds (off+j) c) vs))
 | [],us,cs,vs,h,hl,_,off=>by
  cases us with
  | nil=>exact h
  | cons _ _=>cases hl
 | d::ds,us,cs,vs,h,hl,b,off=>by
  cases us with
  | nil=>cases hl
  | cons u us=>
   have h1:=h.set (b 0 d u rfl rfl) off;have f:=mj.setMany (ds:=ds) (us:=us) h1 (by simpa using hl) (fun i x u g1 g2=>b (i+1) x u g1 g2) (off+1);simp only [AI.setMany,List.zipIdx_cons,rG,eb,bS];rw [List.zipIdx_eq_map_add];rw [List.foldl_map];grind
theorem RC.cells0 {x} {v} {cs} (h:RC c x v) (b:x.cells?=some cs):mj c cs v.cells:=by
 cases x with
 | agg ds=>
  simp only [AV.cells?,aB] at b;subst b;obtain ⟨vs,rfl,h2,i,f⟩:=h;exact ⟨h2,f⟩
 | junk=>cases b
 | undef=>cases b
 | tup vs=>cases b
 | loc d off=>cases b
 | me g k n xs=>cases b
 | int _ _ | bool _ | str _ | lit _ | fn _ | clo _ _ | sl _ _ _ | ref _ | mapv _ | pin _ _ _ _=>
  exact RC.cells h b (by grind [AV.cells?,Option.some.injEq,AV.isCell])
theorem tA {place place':Nat->Option (Nat×Nat)} (v:∀ n q,place n=some q->place' n=some q):∀ {ps:List (Nat×AV)} {us:List (Nat×Value)} {cs:List AV} {vs:Array Value} (_:mj c cs vs) (_:ps.length=us.length)
  (_:∀ (i:Nat) (p:Nat×AV) (u:Nat×Value),ps[i]?=some p->us[i]?=some u->p.1=u.1/\RC c p.2 u.2) {r:List AV},fill place cs ps=some r->∃ f,Instr.fill place' vs us=some f/\mj c r f
 | [],us,cs,vs,h,hl,_,r,b=>by
  simp only [fill,aB] at b;subst b
  cases us with
  | nil=>exact ⟨vs,rfl,h⟩
  | cons _ _=>cases hl
 |(n,x)::ps,us,cs,vs,h,hl,y,r,b=>by
  cases us with
  | nil=>cases hl
  | cons u us=>
   obtain ⟨z,u⟩:=u;have t:=y 0 (n,x) (z,u) rfl rfl;simp only at t;obtain ⟨rfl,hx⟩:=t;simp only [fill] at b;split at b
   ·cases b
   rename_i off size j;split at b
   ·cases b
   rename_i ds l
   cases d:Nat.beq ds.length size&&Nat.ble (off+size) cs.length with
   | false=>rw [d] at b; cases b
   | true=>
    rw [d] at b;simp only [aP] at b;simp only [al] at d;have D:=ak d.1;have B:=ah d.2;have m:=hx.cells0 l;have h1:=h.setMany (ds:=ds) (us:=u.cells.toList) (by simpa using m.1) (fun i x q g1 g2=>m.2 i x q g1 (by simpa using g2)) off;obtain ⟨f,g1,g2⟩:=tA v (us:=us) h1 (by simpa using hl) (fun i p u A E=>y (i+1) p u A E) b;refine ⟨f,?_,g2⟩;simp only [Instr.fill,v _ _ j];rw [aY (by simp only [Bg,cu,aO,not_or]; have:=h.1; have:=m.1; constructor <;> omega)];rw [<- g1]
    congr 1
    grind [Array.toList_zipIdx]
theorem sA {α β:Type} {P:Program} (f:α->Sem β) (g:α->β) (w:World):∀ (xs:List α),(∀ x∈xs,(f x).run P w = .ok (g x) w)->(xs.mapM f).run P w = .ok (xs.map g) w
 | [],_=>by simp
 | x::xs,h=>by
  have d:=h x (aW ..);have b:=sA f g w xs (fun y hy=>h y (aS _ hy));simp only [HM,aD,d,aw,b,aL,cp]
include hT in
theorem zp {t} {i} (g:get T t=some i) {cs} (hz:i.zero.cells?=some cs):∃ z,(zeroValue t).run Γ.P w = .ok z w/\mj c cs z.cells/\(i.zero = .agg cs->∃ vs,z = .agg vs):=by
 obtain ⟨j,d,h1,h2,b⟩:=eo hT g;simp only [TI.of,h1,h2,aB] at b;have hzero:=(ax TI.zero b).symm;simp only at hzero;clear b
 cases hj:j.zero with
 | none=>rw [hj] at hzero; simp only at hzero; rw [hzero] at hz; cases hz
 | some z=>
  rw [hj] at hzero;simp only at hzero;refine ⟨z,by simp only [zeroValue,typeInfo,aD,yr,aw,h1,aL,hj],?_,?_⟩
  ·rw [hzero] at hz
   cases z with
   | agg vs=>
    simp only [Rc,AV.cells?,aB] at hz;subst hz;refine ⟨by simp [Value.cells],fun n x u g1 g2=>?_⟩;rw [aT] at g1;obtain ⟨v,hv,rfl⟩:=aA.1 g1;have:vs[n]?=some v:=by simpa using hv
    grind [Value.cells,fD.of_RD,RD.cst]
   | _=>exact RC.cells0 (RC.of_RD (RD.cst _ _)) hz
  ·intro f;rw [f] at hzero;cases z <;> first | exact ⟨_,rfl⟩ | grind [Rc,cst] | grind [Rc,cst]
theorem mj.agg {cs} {vs} (h:mj c cs vs) (b:∀ x∈cs,x.isCell=true):RC c (.agg cs) (.agg vs):=⟨vs,rfl,h.1,b,h.2⟩
theorem CH {parts:Array (Nat×Operand)} (b:∀ p∈parts.toList,RC c (e p.2) (a.eval p.2)):∀ (i:Nat) (p:Nat×AV) (u:Nat×Value),(parts.toList.map fun (j,x)=>(j,e x))[i]?=some p->(parts.toList.map fun (j,x)=>(j,a.eval x))[i]?=some u->p.1=u.1/\RC c p.2 u.2:=by
 grind
include hT in
theorem WC {t} {parts} (h:gM T C bx e ty (.build t parts) K) (J:o.op = .build t parts) (L:∀ p∈parts.toList,RC c (e p.2) (a.eval p.2)):ge Γ c a w o K:=by
 unfold gM at h;simp only at h;split at h
 ·exact h.elim
 rename_i i hi;split at h
 ·rename_i M v;obtain ⟨z,y,d,D⟩:=zp hT (w:=w) (c:=c) hi (cs:=M) (by rw [v]; rfl);obtain ⟨N,rfl⟩:=D v;simp only [Value.cells] at d
  cases hk:Nat.beq i.kind 1&&i.flds.all (T3 T) with
  | true=>
   rw [hk] at h;simp only [aP] at h;simp only [al,aN] at hk;obtain ⟨F,E⟩:=hk;obtain ⟨A,hu,H⟩:=oX hT hi (ak F);rw [uR] at h;split at h
   ·rename_i cs m
    cases r:cs.all (fun c=>c.isCell) with
    | false=>grind
    | true=>
     rw [r] at h;simp only [aP] at h
     -- the places
     let sz:Field->Nat×Nat:=fun f=>(f.offset,match get T f.type with | some j=>j.size | none=>0)
     have b:(A.mapM fun (f:Field)=>do pure (f.offset,<- sizeOf f.type)).run Γ.P w = .ok (A.map sz) w:=by
      rw [vX,Sem.run_map,sA _ sz w A.toList]
      ·simp only [aw]
       congr 1
       grind
      ·intro f hf;have:=E (f.offset,f.type) (by grind);grind [T3,Sem.run_bind,eU,Result.andThen_ok,Sem.run_pure]
     have l:=tA (c:=c) (place':=((A.map sz)[·]?)) (fun n q G=>by
      rw [fp,H,aT] at G;grind) (ps:=parts.toList.map fun (j,x)=>(j,e x)) (us:=parts.toList.map fun (j,x)=>(j,a.eval x)) d dc (CH L) m
     obtain ⟨B,g1,g2⟩:=l;refine ⟨.agg B,.agg cs,?_,g2.agg (by simpa using r),h⟩;simp only [execOp,J,Instr.build,aD,y,aw,a7 hu,Value.cells,b,yQ,g1,aL]
   ·exact h.elim
  | false=>
   rw [hk] at h;simp only [bq] at h
   cases u:Nat.beq i.kind 2 with
   | false=>grind
   | true=>
    rw [u] at h;simp only [aP] at h;have hu:=ld hT hi (ak u);split at h
    ·exact h.elim
    rename_i j hj;rw [uR] at h;split at h
    ·rename_i cs m
     cases r:cs.all (fun c=>c.isCell) with
     | false=>grind
     | true=>
      rw [r] at h;simp only [aP] at h;obtain ⟨B,g1,g2⟩:=tA (c:=c) (place':=fun n=>some (n*j.size,j.size)) (fun n q G=>G) (ps:=parts.toList.map fun (j,x)=>(j,e x)) (us:=parts.toList.map fun (j,x)=>(j,a.eval x)) d dc (CH L) m;refine ⟨.agg B,.agg cs,?_,g2.agg (by simpa using r),h⟩;simp only [execOp,J,Instr.build,aD,y,aw,a7 hu,Value.cells,eU hT hj,yQ,g1,aL]
    ·exact h.elim
 ·exact h.elim
end
open Go
open Go.RowKit (Below)
section
variable {Γ:cr} {c:dM} {bx:List (Nat×List AV)} {w w':World}
theorem WI.lt_box (b:WI Γ c bx w) {d} {cs} (h:get bx d=some cs) (a:cs≠[]):c.ρ d<w.heap.size:=by
 obtain ⟨_,_,_,vs,T,h1,_⟩:=b.box d cs h a;grind
theorem WI.lt_own (a:WI Γ c bx w) {k g} (h:dq c k=some g):g<w.heap.size:=by
 obtain ⟨_,_,_,_,_,h1,_⟩:=(a.own k).blk g h;grind
theorem WI.lt_m (a:WI Γ c bx w) {b o} {v} (h:c.m b o=some v):b<w.heap.size:=by
 have:=a.sub.cell b o v h;grind [World.cell?]
theorem WI.lt_map (a:WI Γ c bx w) {b} {x} (h:c.m.maps b=some x):b<w.heap.size:=(aX.1 (a.sub.map b x h)).1
theorem WI.lt_x (a:WI Γ c bx w) {k b} {o} (h:c.x k=some (b,o)):b<w.heap.size:=(aX.1 (a.xo k b o h).obj).1
theorem WI.grow (a:WI Γ c bx w) {m'} (f:Below w.heap.size w w') (r:jk w w') (hle:c.m.le m') (z:m'.sub w') (j:c.m.News (w.heap.size<=·) m' w') :
  WI Γ { c with m:=m' } bx w'/\c.le { c with m:=m' }/\NC w w':=by
 have B:Γ.w0.heap.size<=w.heap.size:=a.ext.size;have hle':c.le { c with m:=m' }:=⟨hle,rfl,rfl,rfl,rfl,rfl⟩;refine ⟨⟨a.ext.trans (.of f B),z,a.le0.trans hle,⟨fun b o v h=>?_,fun b x h=>?_⟩,fun d cs h l=>?_,a.inj,fun k=>?_,fun k b o h=>?_⟩,hle',⟨f.size,fun b o h _=>?_,r,fun _ h=>xy h f⟩⟩
 ·rcases j.cell b o v h with h | h
  ·exact (a.new.cell b o v h).imp id fun ⟨h1,h2⟩=>⟨h1,xy h2 f⟩
  grind [jQ,Nat.le_trans]
 ·rcases j.map b x h with h | h
  ·exact a.new.map b x h
  grind [jQ,Nat.le_trans]
 ·have e:=a.lt_box h l;obtain ⟨h1,h2,q,vs,T,u,p,A⟩:=a.box d cs h l;refine ⟨h1,fun o=>?_,q,vs,T,(f.block _ e).trans u,p,fun i x v g1 g2=>(A i x v g1 g2).mono hle'⟩
  cases hm:m' (c.ρ d) o with
  | none=>rfl
  | some v=>
   rcases j.cell _ _ _ hm with h | h
   ·rw [h2 o] at h; cases h
   ·omega
 ·have n:=a.own k;refine ⟨fun g t=>?_,n.shape,n.box,n.apart⟩;have e:=a.lt_own t;obtain ⟨len,cap,T,cells,h1,h2,q,u,p⟩:=n.blk g t;refine ⟨len,cap,T,cells,h1,(f.block _ e).trans h2,q,fun o y=>?_,p⟩
  cases hm:m' g o with
  | none=>rfl
  | some v=>
   rcases j.cell _ _ _ hm with h | h
   ·grind
   ·omega
 ·have e:=a.lt_x h;have hx:=a.xo k b o h;refine ⟨hx.new,(f.block _ e).trans hx.obj,hx.kept,fun i hi=>?_,?_,hx.box,hx.own,hx.inj⟩
  ·cases hm:m' b i with
   | none=>rfl
   | some v=>
    rcases j.cell _ _ _ hm with h | h
    ·rw [hx.mem i hi] at h; cases h
    ·omega
  ·cases hm:m'.maps b with
   | none=>rfl
   | some v=>
    rcases j.map _ _ hm with h | h
    ·rw [hx.map] at h; cases h
    ·omega
 ·rw [f.block b (aX.1 h).1]; exact h
theorem WI.allocData (a:WI Γ c bx w) (vs) (E) :
  WI Γ { c with m:=c.m.with fun b o=>if b=w.heap.size then vs[o]? else c.m b o } bx (w.alloc (.cells vs E))/\c.le { c with m:=c.m.with fun b o=>if b=w.heap.size then vs[o]? else c.m b o }/\NC w (w.alloc (.cells vs E)):=by
 refine a.grow ((abs _ w).alloc (ba _) _) (.alloc w (el _ _)) ⟨fun b o v h=>?_,fun _ _ h=>h⟩ ⟨fun b o v h=>?_,fun b x h=>?_⟩ ⟨fun b o v h=>?_,fun _ _ h => .inl h⟩
 ·have:=a.lt_m h;show (if _ then _ else _)=_;grind
 ·simp only [d5.with] at h;split at h
  ·grind [World.cell?_alloc_new]
  ·have:=a.lt_m h;rw [lS _ _ _ this];exact a.sub.cell b o v h
 ·exact (gI _ _ _ (a.lt_map (x:=x) h)).trans (a.sub.map b x h)
 ·simp only [d5.with] at h;split at h
  ·rename_i d; exact .inr ⟨by omega,vs,E,by rw [d]; exact fx _ _⟩
  ·exact .inl h
theorem SA {c c'} {f} (hx:c'.x=c.x) (hf:∀ x v,RO c x v->RO c' (f x) v) (d:∀ x:AV,x.isCell=true->(f x).isCell=true) {j n} {xs} {v} (h:RX c .box j n xs v) :
  RX c' .box j n (xs.map fun r=>r.map f) v:=by
 obtain ⟨cells,T,own,r1,rfl,a,b,e⟩:=h;refine ⟨cells,T,own.map f,by rw [hx]; exact r1,rfl,by simpa using a,fun y hy=>?_,fun i y u h1 h2=>?_⟩
 ·grind
 grind
theorem HP {x:AV} (k) (h:x.isCell=true):(x.demO k).isCell=true:=by
 cases x with
 | sl o sz xs=>cases o <;> rfl
 | _=>exact h
theorem pZ {x:AV} (k) (h:x.isCell=true):(x.dem1 k).isCell=true:=by
 cases x with
 | sl o sz xs=>cases o <;> rfl
 | me g _ _ _=>cases h
 | _=>exact h
def dM.own (c:dM) (k:Nat) (v:Value) (sz:Nat):dM:={ c with τ:=fun j=>if j=k then v else c.τ j,σ:=fun j=>if j=k then sz else c.σ j }
theorem RO.own {x} {v u} {k sz} (h:RO c x v):RO (c.own k u sz) (x.demO k) v:=by
 cases x with
 | sl o s xs=>
  cases o with
  | id j=>
   simp only [AV.demO]
   cases hj:Nat.beq j k with
   | true=>exact h.2.2
   | false=>
    have a:j≠k:=fun e=>by grind [Nat.beq_refl]
    refine ⟨?_,?_,h.2.2⟩
    ·simp only [dM.own,aY a]; exact h.1
    ·simp only [dM.own,aY a]; exact h.2.1
  | no=>exact h
  | full=>exact h
 | _=>exact h
theorem fD.own {x} {v u} {k sz} (h:fD c x v):fD (c.own k u sz) (x.dem1 k) v:=by
 cases x with
 | sl o s xs=>
  cases o with
  | id j=>
   simp only [AV.dem1]
   cases hj:Nat.beq j k with
   | true=>exact h.2.2
   | false=>
    have a:j≠k:=fun e=>by grind [Nat.beq_refl]
    refine ⟨?_,?_,h.2.2⟩
    ·simp only [dM.own,aY a]; exact h.1
    ·simp only [dM.own,aY a]; exact h.2.1
  | no=>exact h
  | full=>exact h
 | me g j n xs=>
  cases g with
  | box=>exact SA (c:=c) (c':=c.own k u sz) (f:=AV.demO k) (v:=v) rfl (fun _ _ h=>h.own) (fun _ h=>HP k h) h
  | _=>exact h
 | _=>exact h
theorem RC.own {x} {v u} {k sz} (h:RC c x v):RC (c.own k u sz) (x.dem k) v:=by
 cases x with
 | agg cs=>
  obtain ⟨vs,rfl,h1,h2,a⟩:=h;refine ⟨vs,rfl,by simpa using h1,fun y hy=>?_,fun i y d g1 g2=>?_⟩
  ·obtain ⟨z,hz,rfl⟩:=bp.1 hy;exact pZ k (h2 z hz)
  ·rw [aT] at g1;obtain ⟨z,hz,rfl⟩:=aA.1 g1;exact (a i z d hz g2).own
 | sl o s xs=>
  have h1:=(eD (by intro cs b; cases b)).1 h;have h2:=h1.own (k:=k) (u:=u) (sz:=sz)
  cases o with
  | id j=>grind [eD,AV.dem,AV.dem1]
  | no=>exact h
  | full=>exact h
 | me g j n xs=>
  cases g with
  | box=>exact fD.own (k:=k) (u:=u) (sz:=sz) (show fD c (.me .box j n xs) v from h)
  | _=>exact h
 | _=>exact h
theorem lw {α β:Type} (f:Nat->α->β):∀ (l:List (Nat×α)) (k:Nat),get (l.map fun p=>(p.1,f p.1 p.2)) k=(get l k).map (f k)
 | [],_=>rfl
 |(d,v)::r,k=>by
  simp only [cp,get]
  cases a:Nat.beq d k with
  | true=>simp only [aP,bJ]; rw [ak a]
  | false=>simp only [bq]; exact lw f r k
theorem mI (s:St) (k d):get (s.dem k).t d=(get s.t d).map (AV.dem k):=by unfold St.dem; rw [o9]; exact lw (fun (_:Nat) (v:AV)=>v.dem k) s.t d
theorem rR (s:St) (k d):get (s.dem k).b d=(get s.b d).map (fun cs=>cs.map (AV.dem1 k)):=by unfold St.dem; rw [yZ]; exact lw (fun (_:Nat) (cs:List AV)=>cs.map (AV.dem1 k)) s.b d
end
open Go
open Go.RowKit (Below)
theorem fM (a:Act) (d) (v) (k) (b:d<a.tmps.size):(a.put (some d) v).tmps.getD k Go.undef=if k=d then v else a.tmps.getD k Go.undef:=by
 simp only [Act.put,aJ,dx];grind
theorem fI (a:Act) (d) (v):(a.put d v).tmps.size=a.tmps.size:=by cases d <;> simp [Act.put]
theorem er (a:Act) (d) (v):(a.put d v).defers=a.defers:=by cases d <;> rfl
section
variable {Γ:cr} {s:St} {a:Act} {w w':World}
theorem ef.next (f:ef Γ s a w) (h:NC w w') {t} {b} {c} (m:WI Γ c b w') {d} {v} (u:∀ k,d=some k->k<Γ.nt)
  (q:∀ k x,get t k=some x->RC c x ((a.put d v).tmps.getD k Go.undef)):ef Γ ⟨t,b⟩ (a.put d v) w':=by
 obtain ⟨n,h1,h2,i⟩:=f.defers;exact ⟨⟨c,m,q⟩,by rw [fI]; exact f.size,⟨n,by rw [er]; exact h1,h2,fun D j=>⟨h.same D _ (i D j).1 rfl,(i D j).2⟩⟩,fun l hl=>let ⟨r,p⟩:=f.rnd l hl; ⟨r,h.same l _ p rfl⟩⟩
theorem bf {α} (d:Nat) (v:α) (l:List (Nat×α)) (k:Nat):get ((d,v)::l) k=if k=d then some v else get l k:=by
 simp only [get]
 cases h:Nat.beq d k with
 | true=>rw [aV (ak h).symm]; rfl
 | false=>rw [aY (fun e=>by grind [Nat.beq_refl])]; rfl
theorem eT {c} {t} (f:∀ k x,get t k=some x->RC c x (a.tmps.getD k Go.undef)) {d} (b:d<a.tmps.size) {x} {v} (hx:RC c x v) :
  ∀ k y,get ((d,x)::t) k=some y->RC c y ((a.put (some d) v).tmps.getD k Go.undef):=by
 intro k y hy;rw [fM a d v k b];rw [bf] at hy;grind
end
section
variable {Γ:cr} (hΓ:Γ.OK) {T:eX} (hT:T.OK Γ.P) {bx:List (Nat×List AV)} {e:Operand->AV} {K:AV->Prop} {o:Oper} {a:Act} {w:World} {c:dM} {ty:TypeId}
 {next:Act->World->Prop} {Q:Exit->Act->World->Prop}
def VV (Γ:cr) (c:dM) (bx:List (Nat×List AV)) (w:World) (o:Oper) (a:Act) (K:AV->Prop) (next:Act->World->Prop):Prop:=
 ∀ x v w' c',K x->c.le c'->WI Γ c' bx w'->NC w w'->RC c' x v->next (a.put o.dst v) w'
include hΓ in
theorem ge.wp (h:ge Γ c a w o K) (d:WI Γ c bx w) (b:∀ c,o.op≠.defer c) (i:VV Γ c bx w o a K next):o.wpIn Γ.F Γ.n Γ.P a w next Q:=by
 obtain ⟨v,x,h1,h2,f⟩:=h;exact cX hΓ b h1 (i x v w c f (.refl c) d (.refl w) h2)
theorem sT:∀ (ps:List (Nat×Operand)) (n sz:Nat) (xs:List (List AV)),kI e ps n sz=some xs->xs.length=ps.length/\(∀ x∈xs,x.length=sz)/\(∀ x∈xs,∀ y∈x,AV.isCell y=true) /\
  ∀ i p,ps[i]?=some p->p.1=n+i/\∃ cs,xs[i]?=some cs/\rj (e p.2)=some cs
 | [],n,sz,xs,h=>by grind [kI,Option.some.injEq]
 |(j,x)::ps,n,sz,xs,h=>by
  simp only [kI] at h;split at h
  ·rename_i cs l h1 h2
   cases b:Nat.beq j n&&Nat.beq cs.length sz with
   | false=>rw [b] at h; cases h
   | true=>
    rw [b] at h;simp only [aP,aB] at h;subst h;simp only [al] at b;obtain ⟨g1,g2,g3,g4⟩:=sT ps (n+1) sz l h2;refine ⟨by simp [g1],?_,?_,?_⟩
    ·intro y hy;rcases bC.1 hy with rfl | hy
     ·exact ak b.2
     ·exact g2 y hy
    ·intro y hy;rcases bC.1 hy with rfl | hy
     ·intro z hz;unfold rj at h1;split at h1
      ·rename_i ds m
       cases d:ds.all (fun c=>c.isCell) with
       | false=>grind
       | true=>
        rw [d] at h1;simp only [aP,aB] at h1;subst h1;obtain ⟨u,hu,rfl⟩:=bp.1 hz;grind [fQ]
      ·cases h1
     ·exact g3 y hy
    ·intro i p f
     cases i with
     | zero=>
      simp only [bD,aB] at f;subst f;exact ⟨ak b.1,cs,rfl,h1⟩
     | succ i=>
      grind
  ·cases h
theorem sP {x} {v} {cs} (h:rj x=some cs) (hx:RC c x v):cs.length=v.cells.size/\(∀ y∈cs,y.isCell=true)/\∀ (i:Nat) (y:AV) (u:Value),cs[i]?=some y->v.cells[i]?=some u->RD c.m y u:=by
 unfold rj at h;split at h
 ·rename_i ds d
  cases b:ds.all (fun c=>c.isCell) with
  | false=>rw [b] at h; cases h
  | true=>
   rw [b] at h;simp only [aP,aB] at h;subst h;obtain ⟨h1,h2⟩:=hx.cells0 d;refine ⟨by simpa using h1,fun y hy=>?_,fun i y u g1 g2=>?_⟩
   ·obtain ⟨z,hz,rfl⟩:=bp.1 hy;grind [fQ]
   ·rw [aT] at g1;obtain ⟨z,hz,rfl⟩:=aA.1 g1;exact (h2 i z u hz g2).pub
 ·cases h
end
open Go
open Go.RowKit (Below)
theorem wU:∀ (us:List Value) (off:Nat) (arr:Array Value),(us.zipIdx.foldl (fun cs (c,j)=>cs.setIfInBounds (off+j) c) arr).size=arr.size /\
  ∀ k,(us.zipIdx.foldl (fun cs (c,j)=>cs.setIfInBounds (off+j) c) arr)[k]?=if off<=k/\k<off+us.length/\k<arr.size then us[k - off]? else arr[k]?
 | [],off,arr=>by
  refine ⟨rfl,fun k=>?_⟩;rw [aY (by simp; omega)]; rfl
 | u::us,off,arr=>by
  have b:=wU us (off+1) (arr.setIfInBounds off u);simp only [List.zipIdx_cons,rG,eb,bS];rw [List.zipIdx_eq_map_add,List.foldl_map];grind
theorem C3 (size:Nat):∀ (ps:List (Nat×Value)) (n:Nat) (arr:Array Value),(∀ i p,ps[i]?=some p->p.1=n+i/\p.2.cells.size=size)->(n+ps.length)*size<=arr.size ->
  ∃ r,Instr.fill (fun i=>some (i*size,size)) arr ps=some r/\r.size=arr.size/\(∀ k,k<n*size->r[k]?=arr[k]?)/\∀ (i:Nat) (p:Nat×Value),ps[i]?=some p->∀ j,j<size->r[(n+i)*size+j]?=p.2.cells[j]?
 | [],n,arr,_,_=>⟨arr,rfl,rfl,fun _ _=>rfl,by simp⟩
 |(m,v)::ps,n,arr,h,f=>by
  obtain ⟨hm,hv⟩:=h 0 (m,v) rfl;simp only [eb] at hm hv;have hm':n=m:=hm.symm;subst hm';clear hm;have hf:=wU v.cells.toList (n*size) arr;have hlen:v.cells.toList.length=size:=by simpa using hv
  have hN':(n+1+ps.length)*size<=arr.size:=by rw [bu] at f; rw [Nat.add_right_comm,d3]; exact f
  obtain ⟨r,g1,g2,g3,g4⟩:=C3 size ps (n+1) _ (fun i p b=>by obtain ⟨q,l⟩:=h (i+1) p b; exact ⟨by omega,l⟩) (by rw [hf.1]; exact hN')
  have d:n*size+size<=arr.size:=by
   have:(n+1)*size<=(n+1+ps.length)*size:=bg _ am;rw [A7] at this; omega
  refine ⟨r,?_,by rw [g2,hf.1],fun k hk=>?_,fun i p b j hj=>?_⟩
  ·simp only [Instr.fill];rw [aY (by grind)];rw [<- g1]
   congr 1
   grind [Array.toList_zipIdx]
  ·grind
  ·cases i with
   | zero=>
    grind
   | succ i=>
    grind
section
variable {Γ:cr} (hΓ:Γ.OK) {T:eX} (hT:T.OK Γ.P) {C:FuncId->List AV->AV->Prop} {bx:List (Nat×List AV)} {e:Operand->AV} {K:AV->Prop} {o:Oper} {a:Act} {w:World} {c:dM} {ty:TypeId}
 {next:Act->World->Prop} {Q:Exit->Act->World->Prop}
include hΓ hT in
theorem Dp {t} {n} {parts} (h:gM T C bx e ty (.buildSlice t n parts) K) (ho:o.op = .buildSlice t n parts) (hW:WI Γ c bx w)
  (hE:∀ p∈parts.toList,RC c (e p.2) (a.eval p.2)) (hn:VV Γ c bx w o a K next):o.wpIn Γ.F Γ.n Γ.P a w next Q:=by
 unfold gM at h;simp only at h;split at h
 ·exact h.elim
 rename_i i hi;split at h
 ·exact h.elim
 rename_i j hj
 cases hk:Nat.beq i.kind 3&&Nat.beq parts.toList.length n&&Nat.ble (n*j.size) 100000 with
 | false=>grind
 | true=>
  rw [hk] at h;simp only [aP] at h;simp only [al] at hk;obtain ⟨⟨D,A⟩,L⟩:=hk;have hlen:=ak A;have hmax:=ah L;have hu:=ee hT hi (ak D);split at h
  ·rename_i xs zs E M;obtain ⟨z,H,_,_⟩:=zp hT (w:=w) (c:=c) hj M;obtain ⟨Z,U,q3,q4⟩:=sT _ _ _ _ E
   -- the cells
   obtain ⟨zero,hzero⟩:∃ zero:Array Value,zero=if n*j.size=0 then #[] else z.cells:=⟨_,rfl⟩
   have J:∀ i p,(parts.toList.map fun (j,x)=>(j,a.eval x))[i]?=some p->p.1=0+i/\p.2.cells.size=j.size:=by
    intro i p hp;rw [aT] at hp;obtain ⟨q,X,rfl⟩:=aA.1 hp;obtain ⟨r1,cs,u,B⟩:=q4 i q X;refine ⟨r1,?_⟩;have:=(sP B (hE q (aC X))).1;rw [<- this];exact U cs (aC u)
   obtain ⟨r,g1,g2,g3,g4⟩:=C3 j.size _ 0 ((Array.range (n*j.size)).map (zero[· % zero.size]!)) J (by simp [<- hlen]);obtain ⟨W1,W2,W3⟩:=hW.allocData r i.elem
   have N:RD (c.m.with fun b o=>if b=w.heap.size then r[o]? else c.m b o) (.sl .full j.size xs) (.slice (some ⟨w.heap.size,0,none⟩) n n):=by
    have d:∀ (i:Nat) (x:List AV) (k:Nat) (y:AV),xs[i]?=some x->x[k]?=some y->∃ v,r[i*j.size+k]?=some v/\RD c.m y v:=by
     intro i x k y hx hy;have f:i<parts.toList.length:=by rw [<- Z]; exact (aq.1 hx).1
     obtain ⟨r1,cs,u,B⟩:=q4 i _ (ai f);rw [hx] at u;cases u;obtain ⟨s1,s2,s3⟩:=sP B (hE _ (bX f));have hxl:=U x (aC hx);have hkl:k<x.length:=(aq.1 hy).1;have:=g4 i (_,a.eval (parts.toList[i]).2) (by rw [aT,ai f]; rfl) k am;rw [bS] at this;have G:k<(a.eval (parts.toList[i]).2).cells.size:=by omega
     refine ⟨(a.eval (parts.toList[i]).2).cells[k],by grind,?_⟩;exact s3 k y _ hy (aE G)
    refine .sl _ _ _ _ _ _ (by intro k hk; cases hk) (fun _=>rfl) (by rw [Z,hlen]) (ba _) U q3 w.heap.size 0 (fun _=>rfl) (fun i k=>(r[i*j.size+k]?).getD Go.undef) (fun i x k y hx hy=>?_) (fun i x k y hx hy=>?_)
    ·obtain ⟨v,hv,_⟩:=d i x k y hx hy;show (if _ then _ else _)=_; rw [aV rfl,bS,hv]; rfl
    ·obtain ⟨v,hv,hr⟩:=d i x k y hx hy;rw [hv];exact hr.mono W2.m
   refine cX hΓ (by grind) (v := .slice (some ⟨w.heap.size,0,none⟩) n n) (w':=w.alloc (.cells r i.elem)) ?_ (hn _ _ _ _ (by rw [D4] at h; exact h) W2 W1 W3 (RC.of_RD N));simp only [execOp,ho,Instr.buildSlice,aD,a7 hu,aw,eU hT hj];rw [aY am];by_cases l:n*j.size=0
   ·rw [aV l] at hzero;subst hzero;simp only [l,cR,aD,aL,aw,yQ,newRow,oO] at g1 ⊢;rw [g1];simp only [aD,aL,aw,newRow,wd,oO]
   ·rw [aY l] at hzero;subst hzero;simp only [l,cv,aD,H,aL,aw,yQ,g1,newRow,wd,oO]
  ·exact h.elim
end
open Go
open Go.RowKit (Below)
section
variable {Γ:cr} (hΓ:Γ.OK) {T:eX} (hT:T.OK Γ.P) {bx:List (Nat×List AV)} {e:Operand->AV} {K:AV->Prop} {o:Oper} {a:Act} {w:World} {c:dM} {ty:TypeId}
 {next:Act->World->Prop} {Q:Exit->Act->World->Prop}
include hΓ in
theorem Ak (m:Machine):m.fenced Γ.P Γ.F:=by
 intro g _;refine ⟨fun h=>?_,.inl (hΓ.fn _),fun f _=>hΓ.fn f,fun d h=>?_⟩
 ·rw [hΓ.alive] at h; cases h
 ·rw [hΓ.depth] at h; cases h
include hΓ in
theorem js {f} {args} {R} (h:Calls Γ.P f args w R) (n):CallsIn Γ.F n Γ.P f args w R:=by
 refine ⟨hΓ.fn f,fun cs _=>?_⟩;obtain ⟨e,w',fr,h1,h2,d,b⟩:=h cs;refine ⟨e,w',fr,h1,?_,d,b⟩
 cases e with
 | returned v=>exact (StepsIn.of_steps h2).mono fun m _=>Ak hΓ m
 | panicked i=>exact (StepsIn.of_steps h2).mono fun m _=>Ak hΓ m
 | outgrown=>exact h2
include hΓ in
theorem Nh (b:WI Γ c bx w) {f} {args} {r} (h:ar Γ.P f args r) {vs:List Value} (hl:args.length=vs.length) (d:∀ (i:Nat) (x:AV) (v:Value),args[i]?=some x->vs[i]?=some v->RD c.m x v) :
  Calls Γ.P f vs.toArray w fun e w'=>∃ v c',e = .returned v/\RC c' r v/\c.le c'/\WI Γ c' bx w'/\NC w w':=by
 refine (h.2 c.m w vs b.sub (hΓ.gm.trans b.le0) hl d).mono ?_;rintro e w' ⟨v,m',rfl,h1,h2,j,n,p,l⟩;obtain ⟨g1,g2,g3⟩:=b.grow n l h2 j p;exact ⟨v,_,rfl,RC.of_RD (c:={ c with m:=m' }) h1,g2,g1,g3⟩
include hΓ in
theorem HZ {f} {args} {r} (h:ar Γ.P f args r) (q:WI Γ c bx w) {vs:List Value} (hl:args.length=vs.length) (j:∀ (i:Nat) (x:AV) (v:Value),args[i]?=some x->vs[i]?=some v->RD c.m x v)
  (d:∀ c,o.op≠.defer c) (b:(execOp a.eval o).run Γ.P w = .ok (.enter f vs.toArray) w) (u:K r) (p:VV Γ c bx w o a K next):o.wpIn Γ.F Γ.n Γ.P a w next Q:=by
 refine ⟨fun f _=>hΓ.fn f,?_⟩;rw [kW _ _ _ d,b,yJ];refine ⟨fun h=>(by rw [hΓ.depth] at h; cases h),(js hΓ (Nh hΓ q h hl j) _).mono ?_⟩;rintro e w' ⟨v,c',rfl,h1,h2,l,t⟩;exact p r v w' c' u h2 l t h1
theorem JC {args:List Operand} (d:∀ x∈args,RC c (e x) (a.eval x)) {cap} {vs} (hl:cap.length=vs.length) (f:∀ (i:Nat) (x:AV) (v:Value),cap[i]?=some x->vs[i]?=some v->RD c.m x v) :
  ((args.map fun x=>(e x).pub)++cap).length=(args.map a.eval++vs).length/\∀ (i:Nat) (x:AV) (v:Value),((args.map fun x=>(e x).pub)++cap)[i]?=some x->(args.map a.eval++vs)[i]?=some v->RD c.m x v:=by
 refine ⟨by simp [hl],fun i x v h1 h2=>?_⟩;by_cases hi:i<args.length
 ·rw [cL (by simpa using hi),aT] at h1;rw [cL (by simpa using hi),aT] at h2;obtain ⟨q,b,rfl⟩:=aA.1 h1;rw [b] at h2;simp only [bJ,aB] at h2;subst h2;exact (d q (aC b)).pub
 grind
include hΓ in
theorem Y9 {call} {f} (b:call.callee = .value f) (h:gM T (ar Γ.P) bx e ty (.call call) K) (u:o.op = .call call) (A:WI Γ c bx w)  (hf:RC c (e f) (a.eval f)) (q:∀ x∈call.args.toList,RC c (e x) (a.eval x)) (z:VV Γ c bx w o a K next):o.wpIn Γ.F Γ.n Γ.P a w next Q:=by
 unfold gM at h;simp only [b] at h
 have j:∀ g cap,a.eval f = .func (.func g) #[] cap->(resolve a.eval call o.type).run Γ.P w = .ok { target := .fn (.func g) cap,args:=#[]++call.args.map a.eval } w:=by
  intro g cap d;simp only [resolve,b,d,Deferred.ofValue,aL]
 have l:∀ g cap ag r,a.eval f = .func (.func g) #[] cap->ar Γ.P g ag r->(execOp a.eval o).run Γ.P w = .ok (.enter g (call.args.toList.map a.eval++cap.toList).toArray) w:=by
  intro g cap ag r d p;simp only [execOp,u,aD,j g cap d,aw,invoke,p.1 _ w]
  congr 2
  apply tT;simp
 split at h
 ·rename_i g d;obtain ⟨r,p,t⟩:=h;rw [d] at hf;obtain ⟨h1,h2⟩:=JC (c:=c) (a:=a) (e:=e) q (cap:=[]) (vs:=[]) rfl dc;rw [bV] at h1 h2;exact HZ hΓ p A h1 h2 (by grind) (l g #[] _ r hf.fn p) t z
 ·rename_i g cap d;obtain ⟨r,p,t⟩:=h;rw [d] at hf;have hf':RD c.m (.clo g cap) (a.eval f):=hf;generalize hv:a.eval f=B at hf'
  cases hf' with
  | clo _ _ vs hl y=>
   obtain ⟨h1,h2⟩:=JC (c:=c) (a:=a) (e:=e) q (cap:=cap) (vs:=vs.toList) (by simpa using hl) (fun i x v g1 g2=>y i x v g1 (by simpa using g2));grind [HZ]
 ·exact h.elim
end
open Go
section
variable {Γ:cr} (hΓ:Γ.OK) {T:eX} (hT:T.OK Γ.P) {bx:List (Nat×List AV)} {e:Operand->AV} {K:AV->Prop} {o:Oper} {a:Act} {w:World} {c:dM} {ty:TypeId}
 {next:Act->World->Prop} {Q:Exit->Act->World->Prop}
include hΓ hT in
theorem CP {op} (h:gM T (ar Γ.P) bx e ty op K) (i:o.op=op) (q:WI Γ c bx w) (l:∀ x∈op.operands,RC c (e x) (a.eval x)) (u:VV Γ c bx w o a K next):o.wpIn Γ.F Γ.n Γ.P a w next Q:=by
 have v:∀ {A:Op},o.op=A->(∀ c,A≠.defer c)->∀ c,o.op≠.defer c:=fun h1 h2 c=>by rw [h1]; exact h2 c
 cases op with
 | move x=>exact (Y6 h i (l x (by simp [Op.operands]))).wp hΓ q (v i (by intro c j; cases j)) u
 | assign x=>exact (SW h i (l x (by simp [Op.operands]))).wp hΓ q (v i (by intro c j; cases j)) u
 | pick x y z=>exact (Y5 h i (l x (by simp [Op.operands])) (l y (by simp [Op.operands])) (l z (by simp [Op.operands]))).wp hΓ q (v i (by intro c j; cases j)) u
 | binOp op t x y D=>exact (WD hT h i (l x (by simp [Op.operands])) (l y (by simp [Op.operands]))).wp hΓ q (v i (by intro c j; cases j)) u
 | unOp op t x=>exact (Y4 h i (l x (by simp [Op.operands]))).wp hΓ q (v i (by intro c j; cases j)) u
 | load t x=>exact (Y7 hT q h i (l x (by simp [Op.operands]))).wp hΓ q (v i (by intro c j; cases j)) u
 | nilCheck x=>exact (Me h i (l x (by simp [Op.operands]))).wp hΓ q (v i (by intro c j; cases j)) u
 | fieldAddr t x f=>exact (HW hT h i (l x (by simp [Op.operands]))).wp hΓ q (v i (by intro c j; cases j)) u
 | field t x f=>exact (WB hT h i (l x (by simp [Op.operands]))).wp hΓ q (v i (by intro c j; cases j)) u
 | indexAddr t x y=>exact (HV hT h i (l x (by simp [Op.operands])) (l y (by simp [Op.operands]))).wp hΓ q (v i (by intro c j; cases j)) u
 | index t x y=>exact (WA hT h i (l x (by simp [Op.operands])) (l y (by simp [Op.operands]))).wp hΓ q (v i (by intro c j; cases j)) u
 | slice t x lo hi E=>
  refine (Wz hT h i (l x (by simp [Op.operands])) (fun y hy=>l y ?_) (fun y hy=>l y ?_) (fun y hy=>l y ?_)).wp hΓ q (v i (by intro c j; cases j)) u <;>
   (subst hy; simp [Op.operands])
 | sliceToArrayPointer t x=>exact (Wy hT h i (l x (by simp [Op.operands]))).wp hΓ q (v i (by intro c j; cases j)) u
 | extract x n=>exact (PS h i (l x (by simp [Op.operands]))).wp hΓ q (v i (by intro c j; cases j)) u
 | convert s d x=>exact (PT hT h i (l x (by simp [Op.operands]))).wp hΓ q (v i (by intro c j; cases j)) u
 | build t parts=>exact (WC hT h i (fun p B=>l p.2 (by simp only [Op.operands,List.mem_toArray,bp]; exact ⟨p,B,rfl⟩))).wp hΓ q (v i (by intro c j; cases j)) u
 | buildSlice t n parts=>exact Dp hΓ hT h i q (fun p B=>l p.2 (by simp only [Op.operands,List.mem_toArray,bp]; exact ⟨p,B,rfl⟩)) u
 | call call=>
  obtain ⟨callee,args,G⟩:=call
  cases callee with
  | value f=>exact Y9 hΓ rfl h i q (l f (by simp [Op.operands,Call.operands])) (fun x hx=>l x (by grind [Op.operands,Call.operands])) u
  | invoke r m=>exact h.elim
  | builtin b=>
   have hE':∀ x∈args.toList,RC c (e x) (a.eval x):=fun x hx=>l x (by grind [Op.operands,Call.operands])
   cases b with
   | len=>exact (aau hT h i hE').wp hΓ q (v i (by intro c j; cases j)) u
   | max=>exact (HU (big:=true) h i hE').wp hΓ q (v i (by intro c j; cases j)) u
   | min=>exact (HU (big:=false) h i hE').wp hΓ q (v i (by intro c j; cases j)) u
   | _=>exact h.elim
 | _=>exact h.elim
end
open Go
open Go.RowKit (Below)
theorem CC {α:Type}:∀ (l:List α) (n:Nat) (v:α) (x:α),x∈dB l n v->x=v\/x∈l
 | [],n,v,x,h=>by simp [dB] at h
 | y::r,0,v,x,h=>by
  grind [dB,List.mem_cons_of_mem]
 | y::r,n+1,v,x,h=>by
  simp only [dB,bC] at h;rcases h with h | h
  ·exact .inr (by rw [h]; exact aW ..)
  ·rcases CC r n v x h with h | h
   ·exact .inl h
   ·exact .inr (aS _ h)
theorem nE {α:Type}:∀ (vs:List α) (l:List α) (off:Nat) (x:α),x∈setMany l off vs->x∈vs\/x∈l
 | [],l,off,x,h => .inr h
 | v::vs,l,off,x,h=>by
  simp only [setMany] at h;rcases nE vs _ _ x h with h | h
  ·exact .inl (aS _ h)
  ·rcases CC _ _ _ _ h with h | h
   ·exact .inl (by rw [h]; exact aW ..)
   ·exact .inr h
section
variable {Γ:cr} {c:dM} {bx:List (Nat×List AV)} {w:World}
theorem oY {w} {b} (h:eV w b) (g) (vs):eV (w.setRow g vs) b:=by
 obtain ⟨c,T,h⟩:=h;by_cases e:b=g
 ·subst e; exact ⟨vs,T,yo _ _ _ _ _ _ h⟩
 ·exact ⟨c,T,by rw [jn _ _ _ _ e]; exact h⟩
theorem r9 {g} {old} {T} {fr} (e:w.heap[g]?=some (.cells old T fr)) (vs):NC w (w.setRow g vs):=by
 refine ⟨by simp,fun b o a d=>?_,⟨ba _⟩,fun b a=>oY a g vs⟩;by_cases h:b=g
 ·subst h; rw [e] at a; cases a; cases d
 grind [setRow_other]
theorem lQ (o) (a:uc o):NC w (w.alloc o):=⟨by simp,fun b p d _=>by grind [Below.heap_alloc],.alloc w a,fun _ h=>xz h o⟩
theorem WI.storeBox (l:WI Γ c bx w) {d} {cs n} (h:get bx d=some cs) (j:cs≠[]) {vs'} (hl:n.length=vs'.size) (H:∀ x∈n,x.isCell=true)
  (F:∀ (i:Nat) (x:AV) (v:Value),n[i]?=some x->vs'[i]?=some v->fD c x v):WI Γ c ((d,n)::bx) (w.setRow (c.ρ d) vs')/\NC w (w.setRow (c.ρ d) vs'):=by
 obtain ⟨h1,h2,L,vs,T,A,J,M⟩:=l.box d cs h j;have N:=l.ext.size
 refine ⟨⟨l.ext.trans ⟨rfl,rfl,rfl,by simp,fun k hk=>jn _ _ _ _ (by grind)⟩,⟨fun b o v hm=>?_,fun b x hx=>by
  have hx:=l.sub.map b x hx;grind [setRow_other]⟩,l.le0,l.new.keep (fun _ h=>oY h _ _),fun r ds a f=>?_,fun d1 d2 c1 c2 g1 g2 n1 n2 u=>?_,fun k=>?_,fun k b o hx=>?_⟩,r9 A _⟩
 ·by_cases B:b=c.ρ d
  ·grind
  ·rw [Wt _ _ _ _ B]; exact l.sub.cell b o v hm
 ·rw [bf] at a;split at a
  ·rename_i p;subst p;cases a;exact ⟨h1,h2,H,vs',T,yo _ _ _ _ _ _ A,hl,F⟩
  ·rename_i p;obtain ⟨g1,g2,g3,us,U,g4,g5,g6⟩:=l.box r ds a f;refine ⟨g1,g2,g3,us,U,?_,g5,g6⟩;rw [jn _ _ _ _ (fun e=>p (l.inj r d ds cs a h f j e))]; exact g4
 ·rw [bf] at g1 g2;split at g1
  ·rename_i z;split at g2
   ·rename_i y; rw [z,y]
   ·rename_i y;rw [z] at u ⊢;exact l.inj d d2 cs c2 h g2 j n2 u
  ·rename_i z;split at g2
   ·rename_i y;rw [y] at u ⊢;exact l.inj d1 d c1 cs g1 h n1 j u
   ·exact l.inj d1 d2 c1 c2 g1 g2 n1 n2 u
 ·have q:=l.own k;refine ⟨fun g t=>?_,q.shape,fun g r ds t a f=>?_,q.apart⟩
  ·obtain ⟨len,cap,U,cells,D,G,E⟩:=q.blk g t;refine ⟨len,cap,U,cells,D,?_,E⟩;rw [jn _ _ _ _ (fun e=>q.box g d cs t h j e.symm)]; exact G
  ·rw [bf] at a;split at a
   ·rename_i e; rw [e]; exact q.box g d cs t h j
   ·exact q.box g r ds t a f
 ·have m:=l.xo k b o hx;refine ⟨m.new,?_,m.kept,m.mem,m.map,fun r ds a f=>?_,m.own,m.inj⟩
  ·rw [jn _ _ _ _ (fun e=>m.box d cs h j e.symm)]; exact m.obj
  ·rw [bf] at a;split at a
   ·rename_i e; rw [e]; exact m.box d cs h j
   ·exact m.box r ds a f
def dM.at (c:dM) (d b:Nat):dM:={ c with ρ:=fun j=>if j=d then b else c.ρ j }
theorem fD.at_cell {x} {v} (h:fD c x v) (hx:x.isCell=true) (d b):fD (c.at d b) x v:=by
 cases x with
 | loc a o=>simp [AV.isCell] at hx
 | sl o sz xs=>cases o <;> exact h
 | _=>exact h
theorem RC.unloc {x} {v} (h:RC c x v) (d b):RC (c.at d b) (x.unloc d) v:=by
 cases x with
 | loc j o=>
  simp only [AV.unloc]
  cases n:Nat.beq d j with
  | true=>exact RD.junk v
  | false=>
   have a:j≠d:=fun e=>by grind [Nat.beq_refl]
   show v=_;simp only [dM.at,aY a];exact h
 | agg cs=>
  obtain ⟨vs,h1,h2,l,m⟩:=h;exact ⟨vs,h1,h2,l,fun i x u g1 g2=>(m i x u g1 g2).at_cell (l x (aC g1)) d b⟩
 | sl o sz xs=>
  have h1:=(eD (by intro cs f; cases f)).1 h;exact (eD (by intro cs f; cases f)).2 (h1.at_cell rfl d b)
 | _=>exact h
theorem QH (d) (t) (k):get (unloc d t) k=(get t k).map (AV.unloc d):=by unfold unloc; rw [o9]; exact lw (fun (_:Nat) (v:AV)=>v.unloc d) t k
theorem WI.newBox (j:WI Γ c bx w) (d) (T) {cs} {vs} (hl:cs.length=vs.size) (E:∀ x∈cs,x.isCell=true)
  (H:∀ (i:Nat) (x:AV) (v:Value),cs[i]?=some x->vs[i]?=some v->fD c x v):WI Γ (c.at d w.heap.size) ((d,cs)::bx) (w.alloc (.cells vs T)):=by
 have F:=j.ext.size
 have B:∀ o,c.m w.heap.size o=none:=fun o=>by
  cases hm:c.m w.heap.size o with
  | none=>rfl
  | some v=>have:=j.lt_m hm; omega
 refine ⟨j.ext.alloc F _,⟨fun b o v hm=>?_,fun b x hx=>(gI _ _ _ (j.lt_map hx)).trans (j.sub.map b x hx)⟩,j.le0,j.new.keep (fun _ h=>xz h _),fun p ds a f=>?_,fun d1 d2 c1 c2 g1 g2 n1 n2 l=>?_,fun k=>?_,fun k b o hx=>?_⟩
 ·rw [lS _ _ _ (show (⟨b,o,none⟩:Addr).block<_ from j.lt_m hm)]; exact j.sub.cell b o v hm
 ·rw [bf] at a;split at a
  ·rename_i q;cases a;have l:(c.at d w.heap.size).ρ p=w.heap.size:=by simp [dM.at,q]
   rw [l];exact ⟨jQ F,B,E,vs,T,fx _ _,hl,fun i x v g1 g2=>(H i x v g1 g2).at_cell (E x (aC g1)) d _⟩
  ·rename_i q;have l:(c.at d w.heap.size).ρ p=c.ρ p:=by simp [dM.at,q]
   rw [l];obtain ⟨g1,g2,g3,us,U,g4,g5,g6⟩:=j.box p ds a f;exact ⟨g1,g2,g3,us,U,(gI _ _ _ (j.lt_box a f)).trans g4,g5,fun i x v z D=>(g6 i x v z D).at_cell (g3 x (aC z)) d _⟩
 ·rw [bf] at g1 g2;simp only [dM.at] at l;split at g1
  ·rename_i y;split at g2
   ·rename_i r; rw [y,r]
   ·rename_i r;rw [aV y,aY r] at l;have:=j.lt_box g2 n2;omega
  ·rename_i y;split at g2
   ·rename_i r;rw [aV r,aY y] at l;have:=j.lt_box g1 n1;omega
   ·rename_i r;rw [aY y,aY r] at l;exact j.inj d1 d2 c1 c2 g1 g2 n1 n2 l
 ·have A:=j.own k;refine ⟨fun g u=>?_,A.shape,fun g p ds u a f=>?_,A.apart⟩
  ·obtain ⟨len,cap,U,cells,z,D,G⟩:=A.blk g u;exact ⟨len,cap,U,cells,z,(gI _ _ _ (j.lt_own u)).trans D,G⟩
  ·rw [bf] at a;have t:=j.lt_own (k:=k) (g:=g) u;split at a
   ·rename_i e;simp only [dM.at,aV e];omega
   ·rename_i e;simp only [dM.at,aY e];exact A.box g p ds u a f
 ·have n:=j.xo k b o hx;have t:=j.lt_x hx;refine ⟨n.new,(gI _ _ _ t).trans n.obj,n.kept,n.mem,n.map,fun p ds a f=>?_,n.own,n.inj⟩;rw [bf] at a;split at a
  ·rename_i e;simp only [dM.at,aV e];omega
  ·rename_i e;simp only [dM.at,aY e];exact n.box p ds a f
end
open Go
open Go.RowKit (Below)
section
variable {Γ:cr} {c:dM} {bx:List (Nat×List AV)} {w:World}
def Et (k:Nat) (bx:List (Nat×List AV)):List (Nat×List AV):=IU (AV.dem1 k) bx
theorem Uc (k) (bx) (d):get (Et k bx) d=(get bx d).map (fun cs=>cs.map (AV.dem1 k)):=by unfold Et; rw [yZ]; exact lw (fun (_:Nat) (cs:List AV)=>cs.map (AV.dem1 k)) bx d
theorem oE {k d} {cs} (h:get (Et k bx) d=some cs) (a:cs≠[]):∃ ds,get bx d=some ds/\ds≠[]/\cs=ds.map (AV.dem1 k):=by
 rw [Uc] at h;obtain ⟨ds,h1,h2⟩:=aA.1 h;grind
def dM.mem (c:dM) (m:d5):dM:={ c with m:=m }
theorem Q9 {cs:List AV} {vs:Array Value} {k} {u} {sz} {m'} (hle:c.m.le m') (h:cs.length=vs.size/\∀ (i:Nat) (x:AV) (v:Value),cs[i]?=some x->vs[i]?=some v->fD c x v) :
  (cs.map (AV.dem1 k)).length=vs.size/\∀ (i:Nat) (x:AV) (v:Value),(cs.map (AV.dem1 k))[i]?=some x->vs[i]?=some v->fD ((c.mem m').own k u sz) x v:=by
 refine ⟨by simpa using h.1,fun i x v g1 g2=>?_⟩;rw [aT] at g1;obtain ⟨y,hy,rfl⟩:=aA.1 g1;exact ((h.2 i y v hy g2).mono (c':=c.mem m') ⟨hle,rfl,rfl,rfl,rfl,rfl⟩).own
theorem jW (k j) (u) (sz) (m'):dq ((c.mem m').own k u sz) j=if j=k then lH u else dq c j:=by
 by_cases h:j=k
 ·simp only [dq,dM.own,dM.mem,aV h]
 ·simp only [dq,dM.own,dM.mem,aY h]
theorem WI.reown (l:WI Γ c bx w) {k sz} {u} {m'} {w'} (hle:c.m.le m') (hs:m'.sub w') (gk) (q:dq c k=some gk\/w.heap.size<=gk)
  (hn:∀ b o v,m' b o=some v->c.m b o=some v\/(b=gk/\eV w' gk)) (H:m'.maps=c.m.maps) (Q:w'.os=w.os) (D:w'.tape=w.tape) (E:w'.output=w.output) (B:w.heap.size<=w'.heap.size)
  (hblk:∀ b,b<w.heap.size->b≠gk->w'.heap[b]?=w.heap[b]?) (L:NC w w')
  (t:np (sfree Γ.w0 k) u)
  (hu:∀ g,lH u=some g->g=gk/\∃ len cap T,∃ cells:Array Value,u = .slice (some ⟨g,0,none⟩) len cap/\w'.heap[g]?=some (.cells cells T (0,0))/\cells.size=cap*sz /\
   ∀ o,len*sz<=o->m' g o=none) :
  WI Γ ((c.mem m').own k u sz) (Et k bx) w'/\NC w w':=by
 have hB:=l.ext.size
 have J:zN Γ.w0 k gk:=by
  rcases q with h | h
  ·obtain ⟨_,_,_,_,_,_,_,_,h5⟩:=(l.own k).blk gk h; exact h5
  ·exact TG am
 have hgB:free Γ.w0 gk:=J.free
 have z:∀ d cs,get bx d=some cs->cs≠[]->c.ρ d≠gk:=fun d cs h f e=>by
  rcases q with p | p
  ·exact (l.own k).box gk d cs p h f e
  ·have:=l.lt_box h f; omega
 refine ⟨⟨l.ext.trans ⟨Q,D,E,B,fun b hb=>hblk b (dv (jF hb) hB) (nH hb hgB)⟩,hs,l.le0.trans hle,⟨fun b o v h=>?_,fun b x h=>l.new.map b x (by rw [<- H]; exact h)⟩,fun d cs h f=>?_,fun d1 d2 c1 c2 g1 g2 n1 n2 hρ=>?_,fun j=>?_,fun j b o hx=>?_⟩,L⟩
 ·rcases hn b o v h with h | h
  ·exact (l.new.cell b o v h).imp id fun ⟨h1,h2⟩=>⟨h1,L.soft b h2⟩
  grind
 ·obtain ⟨ds,h1,h2,rfl⟩:=oE h f;obtain ⟨X,q2,N,vs,T,Z,q5,q6⟩:=l.box d ds h1 h2;have F:=z d ds h1 h2;refine ⟨X,fun o=>?_,fun x hx=>?_,vs,T,(hblk _ (l.lt_box h1 h2) F).trans Z,Q9 hle ⟨q5,q6⟩⟩
  ·show m' (c.ρ d) o=none
   cases hm:m' (c.ρ d) o with
   | none=>rfl
   | some v=>
    grind
  ·obtain ⟨y,hy,rfl⟩:=bp.1 hx;exact pZ k (N y hy)
 ·obtain ⟨e1,X,q2,_⟩:=oE g1 n1;obtain ⟨e2,N,Z,_⟩:=oE g2 n2;exact l.inj d1 d2 e1 e2 X N q2 Z hρ
 ·have hj:=l.own j;by_cases n:j=k
  ·subst n;refine ⟨fun g a=>?_,?_,fun g d cs a h f=>?_,fun g i a hi=>?_⟩
   ·rw [jW,aV rfl] at a;obtain ⟨rfl,len,cap,T,cells,r1,r2,U,r4⟩:=hu g a;exact ⟨len,cap,T,cells,by simp [dM.own,r1],r2,by simpa [dM.own] using U,fun o M=>by simp only [dM.own,cR] at M; exact r4 o M,J⟩
   ·simp only [dM.own,cR]; exact t
   ·rw [jW,aV rfl] at a;obtain ⟨rfl,_⟩:=hu g a;obtain ⟨ds,h1,h2,_⟩:=oE h f;exact z d ds h1 h2
   ·rw [jW,aV rfl] at a;obtain ⟨rfl,_⟩:=hu g a;rw [jW] at hi;by_cases G:i=j
    ·exact G
    ·rw [aY G] at hi;rcases q with p | p
     ·exact (l.own j).apart g i p hi
     ·have:=l.lt_own hi; omega
  ·have A:dq ((c.mem m').own k u sz) j=dq c j:=by rw [jW,aY n]
   have hne':∀ g,dq c j=some g->g≠gk:=fun g a e=>by
    subst e;rcases q with p | p
    ·exact n ((l.own k).apart g j p a)
    ·have:=l.lt_own a; omega
   refine ⟨fun g a=>?_,?_,fun g d cs a h f=>?_,fun g i a hi=>?_⟩
   ·rw [A] at a;obtain ⟨len,cap,T,cells,r1,r2,U,r4,r5⟩:=hj.blk g a;refine ⟨len,cap,T,cells,by simp only [dM.own,dM.mem,aY n]; exact r1,(hblk g (l.lt_own a) (hne' g a)).trans r2,by simp only [dM.own,dM.mem,aY n]; exact U,fun o M=>?_,r5⟩;simp only [dM.own,dM.mem,aY n] at M;show m' g o=none
    cases hm:m' g o with
    | none=>rfl
    | some v=>
     grind
   ·simp only [dM.own,dM.mem,aY n]; exact hj.shape
   ·rw [A] at a;obtain ⟨ds,h1,h2,_⟩:=oE h f;exact hj.box g d ds a h1 h2
   ·rw [A] at a;rw [jW] at hi;split at hi
    ·grind
    ·exact hj.apart g i a hi
 ·have r:=l.xo j b o hx;have P:=l.lt_x hx
  have hne':b≠gk:=fun e=>by
   rcases q with p | p
   ·exact r.own k (by rw [p,e])
   ·omega
  refine ⟨r.new,(hblk b P hne').trans r.obj,r.kept,fun i hi=>?_,(congrFun H b).trans r.map,fun d cs h f=>?_,fun i hi=>?_,r.inj⟩
  ·show m' b i=none
   cases hm:m' b i with
   | none=>rfl
   | some v=>
    rcases hn _ _ _ hm with h | h
    ·rw [r.mem i hi] at h; cases h
    ·exact absurd h.1 hne'
  ·obtain ⟨ds,h1,h2,_⟩:=oE h f;exact r.box d ds h1 h2
  ·rw [jW] at hi;split at hi
   ·grind
   ·exact r.own i hi
theorem RC.reown {x} {v} (h:RC c x v) {k sz} {u} {m'} (hle:c.m.le m'):RC ((c.mem m').own k u sz) (x.dem k) v:=
 (h.mono (c':=c.mem m') ⟨hle,rfl,rfl,rfl,rfl,rfl⟩).own
theorem WI.own_none (d:WI Γ c bx w) (k sz) (u) (a:np (sfree Γ.w0 k) u) (e:kY u=false) :
  WI Γ ((c.mem c.m).own k u sz) (Et k bx) w:=by
 refine (d.reown (.refl _) d.sub w.heap.size (.inr (ba _)) (fun b o v h => .inl h) rfl rfl rfl rfl (ba _) (fun _ _ _=>rfl) (.refl w) a (fun g f=>?_)).1;unfold lH at f;grind [kY]
theorem WI.own_new (d:WI Γ c bx w) (k sz len cap) (cells) (E) (f:cells.size=cap*sz) (i:len<=cap) :
  WI Γ ((c.mem (c.m.with fun b o=>if b=w.heap.size then (if o<len*sz then cells[o]? else none) else c.m b o)).own k (.slice (some ⟨w.heap.size,0,none⟩) len cap) sz) (Et k bx) (w.alloc (.cells cells E)) /\
   c.m.le (c.m.with fun b o=>if b=w.heap.size then (if o<len*sz then cells[o]? else none) else c.m b o)/\NC w (w.alloc (.cells cells E)):=by
 have hle:c.m.le (c.m.with fun b o=>if b=w.heap.size then (if o<len*sz then cells[o]? else none) else c.m b o):=⟨fun b o v h=>by
  have:=d.lt_m h;show (if b=w.heap.size then _ else _)=_;grind,fun _ _ h=>h⟩
 refine ⟨(d.reown (w':=w.alloc (.cells cells E)) hle ⟨fun b o v h=>?_,fun b x h=>(gI _ _ _ (d.lt_map (x:=x) h)).trans (d.sub.map b x h)⟩ w.heap.size (.inr (ba _)) (fun b o v h=>?_) rfl rfl rfl rfl dc (fun b l _=>gI _ _ _ l) (lQ _ (el _ _)) (.inr ⟨_,_,_,rfl,(by intro h; cases h),fun a j _=>by cases j; exact ⟨rfl,Tp d.ext.size⟩⟩) (fun g e=>?_)).1,hle,lQ _ (el _ _)⟩
 ·simp only [d5.with] at h;split at h
  ·grind [World.cell?_alloc_new]
  ·rw [lS _ _ _ (show (⟨b,o,none⟩:Addr).block<_ from d.lt_m h)];exact d.sub.cell b o v h
 ·simp only [d5.with] at h;split at h
  ·exact .inr ⟨‹_›,cells,E,fx _ _⟩
  ·exact .inl h
 ·simp only [lH] at e;split at e
  ·cases e;refine ⟨rfl,len,cap,E,cells,rfl,fx _ _,f,fun o n=>?_⟩;simp only [d5.with];grind
  ·cases e
theorem WI.own_ext (l:WI Γ c bx w) {k g len cap} (E:c.τ k = .slice (some ⟨g,0,none⟩) len cap) (u:len<cap) (news) (n) (y:news.length=n*c.σ k) (f:len+n<=cap)
  {cells} {T} (e:w.heap[g]?=some (.cells cells T (0,0))) :
  WI Γ ((c.mem (c.m.with fun b o=>if b=g/\len*c.σ k<=o/\o<(len+n)*c.σ k then news[o - len*c.σ k]? else c.m b o)).own k (.slice (some ⟨g,0,none⟩) (len+n) cap) (c.σ k)) (Et k bx)
    (w.setRow g (cells.toList.take (len*c.σ k)++news++cells.toList.drop (len*c.σ k+news.length)).toArray) /\
   c.m.le (c.m.with fun b o=>if b=g/\len*c.σ k<=o/\o<(len+n)*c.σ k then news[o - len*c.σ k]? else c.m b o)/\NC w (w.setRow g (cells.toList.take (len*c.σ k)++news++cells.toList.drop (len*c.σ k+news.length)).toArray):=by
 have hblk:dq c k=some g:=by simp [dq,lH,E,u]
 obtain ⟨B,F,U,q,h1,h2,Q,M,J⟩:=(l.own k).blk g hblk;rw [E] at h1;cases h1;rw [e] at h2;cases h2;have D:(len+n)*c.σ k<=cap*c.σ k:=bg _ f;have A:(len+n)*c.σ k=len*c.σ k+news.length:=by rw [dE,y]
 have hle:c.m.le (c.m.with fun b o=>if b=g/\len*c.σ k<=o/\o<(len+n)*c.σ k then news[o - len*c.σ k]? else c.m b o):=⟨fun b o v h=>by
  by_cases i:b=g/\len*c.σ k<=o/\o<(len+n)*c.σ k
  ·grind
  ·show (if _ then _ else _)=_;rw [aY i]; exact h,fun _ _ h=>h⟩
 have j:∀ o:Nat,(cells.toList.take (len*c.σ k)++news++cells.toList.drop (len*c.σ k+news.length)).toArray[o]?=if len*c.σ k<=o/\o<(len+n)*c.σ k then news[o - len*c.σ k]? else cells[o]?:=fun o=>by
  have t:(cells.toList.take (len*c.σ k)).length=len*c.σ k:=by simp; omega
  rw [fV];by_cases G:o<len*c.σ k
  ·grind
  ·by_cases L:o<(len+n)*c.σ k
   ·grind
   ·rw [aY am,bM (by simp; omega),cB];simp only [cj,t];rw [show len*c.σ k+news.length+(o - (len*c.σ k+news.length))=o by omega]; simp
 refine ⟨(l.reown (w':=w.setRow g (cells.toList.take (len*c.σ k)++news++cells.toList.drop (len*c.σ k+news.length)).toArray) hle ⟨fun b o v h=>?_,fun b x h=>?_⟩ g (.inl hblk) (fun b o v h=>?_) rfl rfl rfl rfl dc (fun b p r=>jn _ _ _ _ r) (r9 e _) (.inr ⟨_,_,_,rfl,(by intro h; cases h),fun a H _=>by cases H; exact ⟨rfl,J.sfree⟩⟩) (fun N d=>?_)).1,hle,r9 e _⟩
 ·simp only [d5.with] at h;by_cases p:b=g
  ·subst p;rw [cell_setRow_same _ _ _ _ _ _ _ e,j];by_cases i:len*c.σ k<=o/\o<(len+n)*c.σ k
   ·grind
   ·rw [aY (fun z=>i z.2)] at h;rw [aY i];have:=l.sub.cell b o v h;simpa [World.cell?,e] using this
  ·rw [aY (fun z=>p z.1)] at h;rw [Wt _ _ _ _ p]; exact l.sub.cell b o v h
 ·have hx:=l.sub.map b x h;grind [setRow_other]
 ·simp only [d5.with] at h;by_cases i:b=g/\len*c.σ k<=o/\o<(len+n)*c.σ k
  ·exact .inr ⟨i.1,_,T,yo _ _ _ _ _ _ e⟩
  grind
 ·simp only [lH] at d;split at d
  ·cases d;refine ⟨rfl,len+n,cap,T,_,rfl,yo _ _ _ _ _ _ e,?_,fun o P=>?_⟩
   ·grind
   ·simp only [d5.with];grind
  ·cases d
end
open Go
open Go.RowKit (Below)
section
variable {Γ:cr} {c:dM} {bx:List (Nat×List AV)} {w:World}
theorem WI.freeze (j:WI Γ c bx w) {d} {cs} (h:get bx d=some cs) (l:cs≠[]):∃ m',c.m.le m'/\WI Γ (c.mem m') ((d,[])::bx) w /\
  RD m' (.ref (cs.map AV.pub1)) (.pointer (some ⟨c.ρ d,0,none⟩)):=by
 obtain ⟨h1,h2,L,vs,T,F,P,M⟩:=j.box d cs h l
 have hle:c.m.le (c.m.with fun b o=>if b=c.ρ d then vs[o]? else c.m b o):=⟨fun b o v hm=>by
  show (if _ then _ else _)=_;grind,fun _ _ h=>h⟩
 refine ⟨_,hle,⟨j.ext,⟨fun b o v hm=>?_,j.sub.map⟩,j.le0.trans hle,⟨fun b o v hm=>?_,j.new.map⟩,fun q ds a f=>?_,fun d1 d2 c1 c2 g1 g2 n1 n2 N=>?_,fun k=>?_,fun k b o hx=>?_⟩,?_⟩
 ·simp only [dM.mem,d5.with] at hm;split at hm
  ·grind [World.cell?]
  ·exact j.sub.cell b o v hm
 ·simp only [dM.mem,d5.with] at hm;split at hm
  ·rename_i E; exact .inr (by rw [E]; exact ⟨h1,vs,T,F⟩)
  ·exact j.new.cell b o v hm
 ·rw [bf] at a;split at a
  ·grind
  ·rename_i A;obtain ⟨g1,g2,g3,us,U,g4,g5,g6⟩:=j.box q ds a f;refine ⟨g1,fun o=>?_,g3,us,U,g4,g5,fun i x v t r=>(g6 i x v t r).mono (c':=c.mem _) ⟨hle,rfl,rfl,rfl,rfl,rfl⟩⟩;show (if c.ρ q=c.ρ d then _ else _)=_;rw [aY (fun e=>A (j.inj q d ds cs a h f l e))]; exact g2 o
 ·rw [bf] at g1 g2;split at g1
  ·grind
  ·split at g2
   ·grind
   ·exact j.inj d1 d2 c1 c2 g1 g2 n1 n2 N
 ·have u:=j.own k;refine ⟨fun g z=>?_,u.shape,fun g q ds z a f=>?_,u.apart⟩
  ·obtain ⟨len,cap,U,cells,t,r,G,J,H⟩:=u.blk g z;refine ⟨len,cap,U,cells,t,r,G,fun o D=>?_,H⟩;show (if g=c.ρ d then _ else _)=_;rw [aY (fun e=>u.box g d cs z h l e.symm)]; exact J o D
  ·rw [bf] at a;split at a
   ·grind
   ·exact u.box g q ds z a f
 ·have n:=j.xo k b o hx;refine ⟨n.new,n.obj,n.kept,fun i hi=>?_,n.map,fun q ds a f=>?_,n.own,n.inj⟩
  ·show (if b=c.ρ d then _ else _)=_;rw [aY (fun e=>n.box d cs h l e.symm)]; exact n.mem i hi
  ·rw [bf] at a;split at a
   ·grind
   ·exact n.box q ds a f
 ·have p:∀ (i:Nat) (y:AV),(cs.map AV.pub1)[i]?=some y->∃ x v,cs[i]?=some x/\vs[i]?=some v/\y=x.pub1:=by
   intro i y hy;rw [aT] at hy;obtain ⟨x,hx,rfl⟩:=aA.1 hy;have B:i<vs.size:=by have:=(aq.1 hx).1; omega
   exact ⟨x,vs[i],hx,aE B,rfl⟩
  refine .ref _ _ _ (fun y hy=>?_) (fun i=>(vs[i]?).getD Go.undef) (fun i y hy=>?_) (fun i y hy=>?_)
  ·obtain ⟨x,hx,rfl⟩:=bp.1 hy;exact fQ (L x hx)
  ·obtain ⟨x,v,t,r,rfl⟩:=p i y hy;show (if _ then _ else _)=_;grind
  ·obtain ⟨x,v,t,r,rfl⟩:=p i y hy;rw [r];exact (M i x v t r).pub.mono hle
theorem RC.frz {x} {v} (h:RC c x v) {m'} (hle:c.m.le m') {d} {ds} (e:RD m' (.ref ds) (.pointer (some ⟨c.ρ d,0,none⟩))):RC (c.mem m') (x.frz d ds) v:=by
 have hm:RC (c.mem m') x v:=h.mono (c':=c.mem m') ⟨hle,rfl,rfl,rfl,rfl,rfl⟩
 cases x with
 | loc f o=>
  simp only [AV.frz]
  cases b:Nat.beq d f with
  | true=>
   have a:=ak b;subst a;have hv:v=_:=h.loc;have:=e.ref_drop o;rw [bS] at this;rw [hv];exact this
  | false=>exact hm
 | _=>exact hm
end
open Go
open Go.RowKit (Below)
theorem RD.flat {m} {o} {sz} {xs} {base} {len cap} (h:RD m (.sl o sz xs) (.slice base len cap)) :
  ∃ l:List Value,l.length=len*sz/\(∀ (i:Nat) (x:List AV) (j:Nat) (c:AV),xs[i]?=some x->x[j]?=some c->∃ v,l[i*sz+j]?=some v/\RD m c v)/\(∀ v∈l,v.oneCell'=true) /\
   xs.length=len/\len<=cap/\(∀ x∈xs,x.length=sz)/\(∀ x∈xs,∀ c∈x,AV.isCell c=true)/\(0<len->∃ b off,base=some ⟨b,off,none⟩/\∀ k v,l[k]?=some v->m b (off+k)=some v):=by
 cases h with
 | sl _ _ _ _ _ _ u hf hl r e a b off p g t q=>
  have key:∀ k,k<len*sz->∃ x c,xs[k / sz]?=some x/\x[k % sz]?=some c/\k / sz*sz+k % sz=k:=by
   intro k hk
   have d:0<sz:=by
    rcases nr sz with h | h
    ·grind
    ·exact h
   have h1:k / sz<xs.length:=by rw [hl]; exact (Nat.div_lt_iff_lt_mul d).2 hk
   have h2:k % sz<(xs[k / sz]).length:=by rw [e _ (bX h1)]; exact nq _ d
   exact ⟨_,_,ai h1,ai h2,Nat.div_add_mod' k sz⟩
  refine ⟨(List.range (len*sz)).map fun k=>g (k / sz) (k % sz),by simp,fun i x j c hx hj=>?_,fun v hv=>?_,hl,r,e,a,fun n=>⟨b,off,p n,fun k v hk=>?_⟩⟩
  ·have hi:i<len:=by rw [<- hl]; exact (aq.1 hx).1
   have hj':j<sz:=by rw [<- e x (aC hx)]; exact (aq.1 hj).1
   have f:i*sz+j<len*sz:=by
    have:(i+1)*sz<=len*sz:=bg _ hi;rw [A7] at this; omega
   grind
  ·obtain ⟨k,hk,rfl⟩:=bp.1 hv;obtain ⟨x,c,h1,h2,y⟩:=key k (bz.1 hk);exact (RD.one (q _ x _ c h1 h2) (a x (aC h1) c (aC h2))).1
  grind
theorem tO {m} {o} {sz} {xs} {b off len cap} (f:∀ k,o≠.id k) (hf:o = .full->cap=len) (hl:xs.length=len) (h:len<=cap) (d:∀ x∈xs,x.length=sz)
  (a:∀ x∈xs,∀ c∈x,AV.isCell c=true) {l:List Value} (n:∀ (i:Nat) (x:List AV) (j:Nat) (c:AV),xs[i]?=some x->x[j]?=some c->∃ v,l[i*sz+j]?=some v/\RD m c v)
  (hm:∀ k v,l[k]?=some v->k<len*sz->m b (off+k)=some v):RD m (.sl o sz xs) (.slice (some ⟨b,off,none⟩) len cap):=by
 have e:∀ (i:Nat) (x:List AV) (j:Nat) (c:AV),xs[i]?=some x->x[j]?=some c->i*sz+j<len*sz:=by
  intro i x j c hx hj;have hi:i<len:=by rw [<- hl]; exact (aq.1 hx).1
  have hj':j<sz:=by rw [<- d x (aC hx)]; exact (aq.1 hj).1
  have:(i+1)*sz<=len*sz:=bg _ hi;rw [A7] at this; omega
 refine .sl _ _ _ _ _ _ f hf hl h d a b off (fun _=>rfl) (fun i j=>(l[i*sz+j]?).getD Go.undef) (fun i x j c hx hj=>?_) (fun i x j c hx hj=>?_)
 ·grind
 grind
theorem lf {P} {t e} {i} (n:P.underlying t=some (.slice e)) (hi:P.info? e=some i) {w} {T}
  {g sLen se} {cur} (o:w.heap[g]?=some (.cells cur T (0,0)))
  (a) (m c) (news) (hl:news.length=m*i.size) (b:∀ j u,news[j]?=some u->w.cell? (a.add j)=some u) (h1:∀ u∈news,u.oneCell'=true)
  (d:sLen+m<=se) (l:sLen*i.size+news.length<=cur.size) (ty) :
  (Builtin.append_ #[t,t] ty #[.slice (some ⟨g,0,none⟩) sLen se,.slice (some a) m c]).run P w =
   .ok (.slice (some ⟨g,0,none⟩) (sLen+m) se) (w.setRow g (cur.toList.take (sLen*i.size)++news++cur.toList.drop (sLen*i.size+news.length)).toArray):=by
 have hf:=run_firstCells_some (P:=P) w i.size m a m c news hl b;have f:=oM P g (sLen*i.size) T news 0 cur w o (by simpa using l) h1;simp only [eb] at f;have h:(⟨g,0,none⟩:Addr).add (sLen*i.size)=⟨g,sLen*i.size,none⟩:=by rw [fu,bS]
 simp [Builtin.append_,a7 n,sizeOf,typeInfo,hi,Builtin.lenOf,d,hf,h,f]
theorem qZ {m} {sz} {xs a:List (List AV)} {l k:List Value} (hl:l.length=xs.length*sz)
  (hx:∀ (i:Nat) (x:List AV) (j:Nat) (c:AV),xs[i]?=some x->x[j]?=some c->∃ v,l[i*sz+j]?=some v/\RD m c v)
  (hy:∀ (i:Nat) (x:List AV) (j:Nat) (c:AV),a[i]?=some x->x[j]?=some c->∃ v,k[i*sz+j]?=some v/\RD m c v) :
  ∀ (i:Nat) (x:List AV) (j:Nat) (c:AV),(xs++a)[i]?=some x->x[j]?=some c->∃ v,(l++k)[i*sz+j]?=some v/\RD m c v:=by
 intro i x j c h1 h2;by_cases hi:i<xs.length
 ·grind
 ·rw [bM am] at h1;obtain ⟨v,g1,g2⟩:=hy _ x j c h1 h2;refine ⟨v,?_,g2⟩
  have:i*sz+j=xs.length*sz+((i - xs.length)*sz+j):=by
   have:i*sz=xs.length*sz+(i - xs.length)*sz:=by rw [<- dE]; congr 1; omega
   omega
  grind
section
variable {Γ:cr} {c:dM} {bx:List (Nat×List AV)} {w:World}
theorem WI.drew (a:WI Γ c bx w):WI Γ c bx w.drew:=
 ⟨a.ext.drew,⟨a.sub.cell,a.sub.map⟩,a.le0,a.new.keep (fun _ h=>h),a.box,a.inj,fun k=>⟨(a.own k).blk,(a.own k).shape,(a.own k).box,(a.own k).apart⟩,fun k b o h=>⟨(a.xo k b o h).new,(a.xo k b o h).obj,(a.xo k b o h).kept,(a.xo k b o h).mem,(a.xo k b o h).map,(a.xo k b o h).box,(a.xo k b o h).own,(a.xo k b o h).inj⟩⟩
theorem jq (w:World) {T:eX} (i:T.OK Γ.P) {e} {j} (hj:get T e=some j) {zs} (hz:j.zero.cells?=some zs) (m:zs.length=j.size) :
  ∃ (q:TypeInfo) (z:Value),Γ.P.info? e=some q/\q.size=j.size/\q.bytes=j.bytes/\q.zero=some z/\z.cells.size=j.size/\mj c zs z.cells:=by
 obtain ⟨q,d,h1,h2,a⟩:=eo i hj;obtain ⟨z,g1,g2,_⟩:=zp i (w:=w) (c:=c) hj hz;simp only [TI.of,h1,h2,aB] at a;have h:=ax TI.size a;have f:=ax TI.bytes a;simp only at h f;simp only [zeroValue,typeInfo,aD,yr,aw,h1,aL] at g1
 cases b:q.zero with
 | none=>rw [b] at g1; cases g1
 | some l=>
  rw [b] at g1;simp only [aL,aat,tH] at g1;subst g1;exact ⟨q,l,h1,h,f,b,by have:=g2.1; omega,g2⟩
theorem AF {T:eX} (f:T.OK Γ.P) {t} {i j} {o o'} {sz sz'} {xs} {u v} {zs} (hi:get T t=some i) (d:i.kind=3) (hj:get T i.elem=some j)
  (hz:j.zero.cells?=some zs) (b:zs.length=j.size) (hx:fD c (.sl o sz xs) u) (hy:fD c (.sl o' sz' []) v) (ty):(Builtin.append_ #[t,t] ty #[u,v]).run Γ.P w = .ok u w:=by
 have hu:=ee f hi d;obtain ⟨q,z,x,N,E,H,G,_⟩:=jq (c:=c) w f hj hz b;have hx':RD c.m (.sl .no sz xs) u:=hx.sl_no;have hy':RD c.m (.sl .no sz' []) v:=hy.sl_no;obtain ⟨base,len,cap,rfl,_,_⟩:=hx'.elem;obtain ⟨a,n,e,rfl,_,_⟩:=hy'.elem;obtain ⟨l,l1,l2,l3,y,r,M,L,D⟩:=hx'.flat;obtain ⟨k2,k1,p,k3,h,F,J,B,A⟩:=hy'.flat;subst y;simp only [kr] at h;subst h;cases a <;> cases base <;> simp [Builtin.append_,a7 hu,sizeOf,typeInfo,x,Builtin.lenOf,Builtin.firstCells,loadCells,loadCellsFrom,r,storeCells]
theorem No {T:eX} (hT:T.OK Γ.P) (H:WI Γ c bx w) {t k} {i j} {o o'} {sz sz'} {xs d} {u v} {zs} (hi:get T t=some i) (hk3:i.kind=3) (hj:get T i.elem=some j)
  (hz:j.zero.cells?=some zs) (hzl:zs.length=j.size) (L:0<j.size) (hx:fD c (.sl o sz xs) u) (hy:fD c (.sl o' sz' d) v) (U:j.size=sz\/xs=[]) (hsy:j.size=sz'\/d=[]) (hroom:gR (xs.length+d.length) j.bytes)
  (hmax:xs.length+d.length<=4611686018427387904) (ho:(o = .full/\Np xs d=true)\/(o = .id k/\(j.size=sz\/sz=0))) (ty) :
  ∃ r w' m',(Builtin.append_ #[t,t] ty #[u,v]).run Γ.P w = .ok r w'/\c.m.le m'/\WI Γ ((c.mem m').own k r j.size) (Et k bx) w'/\NC w w'/\fD ((c.mem m').own k r j.size) (.sl (.id k) j.size (xs++d)) r:=by
 have hu:=ee hT hi hk3;obtain ⟨q,z,q1,q2,q3,q4,q5,_⟩:=jq (c:=c) w hT hj hz hzl;have hx':RD c.m (.sl .no sz xs) u:=hx.sl_no;have hy':RD c.m (.sl .no sz' d) v:=hy.sl_no;obtain ⟨base,len,cap,rfl,_,_⟩:=hx'.elem;obtain ⟨M,n,e,rfl,_,_⟩:=hy'.elem;obtain ⟨l,l1,l2,l3,l4,l5,l6,l7,l8⟩:=hx'.flat;obtain ⟨k2,k1,k2',k3,k4,k5,k6,k7,k8⟩:=hy'.flat;subst l4;subst k4
 -- sizes of all elements
 have hx6:∀ x∈xs,x.length=j.size:=by
  rcases U with h | h
  ·rw [h]; exact l6
  ·subst h; simp
 have hy6:∀ x∈d,x.length=j.size:=by
  rcases hsy with h | h
  ·rw [h]; exact k6
  ·subst h; simp
 have J:∀ x∈xs++d,x.length=j.size:=fun x hx=>by grind
 have N:∀ x∈xs++d,∀ c∈x,AV.isCell c=true:=fun x hx=>by grind
 have Q:l.length=xs.length*j.size:=by
  rcases U with h | h
  ·rw [h]; exact l1
  ·subst h; simpa using l1
 have G:k2.length=d.length*j.size:=by
  rcases hsy with h | h
  ·rw [h]; exact k1
  ·subst h; simpa using k1
 have hl2:∀ (i:Nat) (x:List AV) (p:Nat) (c':AV),xs[i]?=some x->x[p]?=some c'->∃ v,l[i*j.size+p]?=some v/\RD c.m c' v:=by
  rcases U with h | h
  ·rw [h]; exact l2
  ·subst h; simp
 have hk2:∀ (i:Nat) (x:List AV) (p:Nat) (c':AV),d[i]?=some x->x[p]?=some c'->∃ v,k2[i*j.size+p]?=some v/\RD c.m c' v:=by
  rcases hsy with h | h
  ·rw [h]; exact k2'
  ·subst h; simp
 by_cases hys:d=[]
 ·-- nothing comes
  subst hys
  have f:(Builtin.append_ #[t,t] ty #[.slice base xs.length cap,.slice M 0 e]).run Γ.P w = .ok (.slice base xs.length cap) w:=by
   cases M <;> cases base <;> simp [Builtin.append_,a7 hu,sizeOf,typeInfo,q1,Builtin.lenOf,Builtin.firstCells,loadCells,loadCellsFrom,l5,storeCells]
  have E:np (sfree Γ.w0 k) (.slice base xs.length cap:Value):=by
   rcases ho with ⟨rfl,hap⟩ | ⟨rfl,_⟩
   ·right;refine ⟨_,_,_,rfl,fun _=>?_,fun a _ hl=>?_⟩
    ·have hf:RD c.m (.sl .full sz xs) (.slice base xs.length cap):=hx;cases hf with | sl _ _ _ _ _ _ _ hf=>exact (hf rfl).symm
    ·rcases Rf hap with h | h
     ·rw [h] at hl; simp at hl
     ·exact absurd rfl h
   ·have:=(H.own k).shape;rw [<- hx.1] at this; exact this
  refine ⟨_,w,c.m,f,.refl _,?_,.refl w,?_⟩
  ·by_cases F:kY (.slice base xs.length cap)=true
   ·-- it stays owned
    rcases ho with ⟨rfl,_⟩ | ⟨rfl,hos⟩
    ·have hf:RD c.m (.sl .full sz xs) (.slice base xs.length cap):=hx;cases hf with | sl _ _ _ _ _ _ _ hf=>simp [kY,hf rfl] at F
    ·obtain ⟨g1,g2⟩:=hx.2.1 F;have Z:j.size=sz:=by rcases hos with h | h; exact h; omega
     simp only [kY,aO] at F;have hτ:c.τ k = .slice base xs.length cap:=hx.1.symm
     cases base with
     | none=>
      rcases (H.own k).shape with h | ⟨b,l',p,h,h',_⟩
      ·grind
      grind
     | some a0=>
      have hblk:dq c k=some a0.block:=by simp [dq,lH,hτ,F]
      obtain ⟨len',e,T',cells',r1,r2,r3,r4,r5⟩:=(H.own k).blk _ hblk;rw [hτ] at r1;simp only [Ww,aB] at r1;obtain ⟨ra,rb,rc⟩:=r1;subst rb rc;obtain ⟨gb,hgb⟩:∃ gb,gb=a0.block:=⟨_,rfl⟩;rw [<- hgb] at ra r2 r4 hblk;subst ra;refine (H.reown (.refl _) H.sub _ (.inl hblk) (fun b o v h => .inl h) rfl rfl rfl rfl (ba _) (fun _ _ _=>rfl) (.refl w) E (fun g hg=>?_)).1;simp only [lH,F,cR,aB] at hg;grind
   ·exact H.own_none k j.size _ E (by simpa using F)
  ·refine ⟨by simp [dM.own],fun _=>⟨by simp [dM.own],L⟩,?_⟩;rw [bV];show RD c.m _ _;rcases U with h | h
   ·rw [h]; exact hx'
   ·subst h
    cases hx' with
    | sl _ _ _ _ _ _ ho' hf hl hc hsz hcell b off hb g hm hr=>exact .sl _ _ _ _ _ _ ho' hf hl hc dc dc b off hb g dc dc
 ·-- something comes
  have hn:0<d.length:=sc.2 hys;obtain ⟨b',A,rfl,hkm⟩:=k8 hn;have B:∀ p v,k2[p]?=some v->w.cell? ((⟨b',A,none⟩:Addr).add p)=some v:=fun p v h=>by rw [fu]; exact H.sub.cell _ _ _ (hkm p v h)
  have h63:((xs.length+d.length:Nat):Int)<=9223372036854775807:=by omega
  have X:(xs.length+d.length)*j.bytes<=140737488355328:=by unfold gR at hroom; omega
  by_cases D:xs.length+d.length<=cap
  ·-- in its place
   have hlt:xs.length<cap:=by omega
   rcases ho with ⟨rfl,_⟩ | ⟨rfl,hos⟩
   ·have hf:RD c.m (.sl .full sz xs) (.slice base xs.length cap):=hx;cases hf with | sl _ _ _ _ _ _ _ hf=>have:=hf rfl; omega
   ·obtain ⟨g1,g2⟩:=hx.2.1 (by simp [kY,hlt]);have Z:j.size=sz:=by rcases hos with h | h; exact h; omega
    have hτ:c.τ k = .slice base xs.length cap:=hx.1.symm
    cases base with
    | none=>
     rcases (H.own k).shape with h | ⟨b,l',p,h,h',_⟩
     ·grind
     grind
    | some a0=>
     have hblk:dq c k=some a0.block:=by simp [dq,lH,hτ,hlt]
     obtain ⟨len',cap'',T',cells,r1,r2,r3,r4,r5⟩:=(H.own k).blk _ hblk;rw [hτ] at r1;simp only [Ww,aB] at r1;obtain ⟨ra,rb,rc⟩:=r1;subst rb rc;obtain ⟨gb,hgb⟩:∃ gb,gb=a0.block:=⟨_,rfl⟩;rw [<- hgb] at ra r2;subst ra;have hσ:c.σ k=j.size:=by rw [g1,Z]
     -- the block's own element type
     obtain ⟨W1,W2,W3⟩:=H.own_ext (k:=k) (g:=gb) hτ hlt k2 d.length (by rw [hσ]; exact G) D r2;rw [hσ] at W1 W2 W3;have f:=lf hu q1 (w:=w) (T:=T') (cur:=cells) (g:=gb) (sLen:=xs.length) (se:=cap) r2 ⟨b',A,none⟩ d.length e k2 (by rw [G,q2]) B k3 D (by rw [G,q2,r3,hσ,<- dE]; exact bg _ D) ty;rw [q2] at f;refine ⟨_,_,_,f,W2,W1,W3,by simp [dM.own],fun _=>⟨by simp [dM.own],L⟩,?_⟩;refine tO (l:=l++k2) (by intro k hk; cases hk) (by intro hk; cases hk) dc D J N (fun i x p c' h1 h2=>?_) (fun p v hp hlt'=>?_)
     ·obtain ⟨v,h3,h4⟩:=qZ (m:=c.m) Q hl2 hk2 i x p c' h1 h2;exact ⟨v,h3,h4.mono W2⟩
     ·simp only [dM.own,dM.mem,d5.with,bS];grind
  ·-- elsewhere
   have hfits:=wg (need:=xs.length+d.length) (old:=cap) (bytes:=q.bytes) am (by rw [q3]; exact X);have hge:=L8 w (xs.length+d.length) cap i.elem;obtain ⟨cells,y⟩:∃ cells,cells=l.toArray++k2.toArray++Builtin.zeroCells z.cells (grownCap w (xs.length+d.length) cap i.elem - (xs.length+d.length)):=⟨_,rfl⟩
   have f:(Builtin.append_ #[t,t] ty #[.slice base xs.length cap,.slice (some ⟨b',A,none⟩) d.length e]).run Γ.P w =
     .ok (.slice (some ⟨w.heap.size,0,none⟩) (xs.length+d.length) (grownCap w (xs.length+d.length) cap i.elem)) (w.drew.alloc (.cells cells i.elem)):=by
    cases base with
    | none=>
     have hx0:xs.length=0:=by
      rcases nr xs.length with h | h
      ·exact h
      ·grind
     have hxn:xs=[]:=qo hx0
     have hcap0:cap=0:=by
      rcases ho with ⟨rfl,_⟩ | ⟨rfl,_⟩
      ·have hf:RD c.m (.sl .full sz xs) (.slice none xs.length cap):=hx;cases hf with | sl _ _ _ _ _ _ _ hf=>have:=hf rfl; omega
      ·have hτ:c.τ k = .slice none xs.length cap:=hx.1.symm;rcases (H.own k).shape with h | ⟨b,l',p,h,h',_⟩
       ·grind
       grind
     subst hxn;subst hcap0;have hl0:l=[]:=qo (by rw [Q]; simp);subst hl0;simp only [kr,bS] at y X ⊢;have:=L6 (P:=Γ.P) w t ty i.elem q z hu q1 q4 ⟨b',A,none⟩ d.length e k2 (by rw [G,q2]) B hn am (by rw [q3]; omega);grind
    | some a0=>
     have holds:∀ p v,l[p]?=some v->w.cell? (a0.add p)=some v:=fun p v hp=>by
      have hl0:0<xs.length:=by
       rcases nr xs.length with h | h
       ·grind
       ·exact h
      obtain ⟨b1,o1,e1,e2⟩:=l8 hl0;cases e1;rw [fu]; exact H.sub.cell _ _ _ (e2 p v hp)
     rw [sB (P:=Γ.P) w t ty i.elem q z hu q1 q4 a0 xs.length cap l (by rw [Q,q2]) holds ⟨b',A,none⟩ d.length e k2 (by rw [G,q2]) B am h63 hfits,y]
   have hsz:cells.size=grownCap w (xs.length+d.length) cap i.elem*j.size:=by
    rw [y];simp only [og,iQ,v8,q5,Q,G];rw [<- dE,<- dE]
    congr 1
    omega
   obtain ⟨W1,W2,W3⟩:=H.drew.own_new k j.size (xs.length+d.length) (grownCap w (xs.length+d.length) cap i.elem) cells i.elem hsz hge;refine ⟨_,_,_,f,W2,W1,(NC.trans (show NC w w.drew from ⟨ba _,fun _ _ h _=>h,.drew _,fun _ h=>h⟩) W3),by simp [dM.own],fun _=>⟨by simp [dM.own],L⟩,?_⟩;refine tO (l:=l++k2) (by intro k hk; cases hk) (by intro hk; cases hk) dc hge J N (fun i x p c' h1 h2=>?_) (fun p v hp hlt'=>?_)
   ·obtain ⟨v,h3,h4⟩:=qZ (m:=c.m) Q hl2 hk2 i x p c' h1 h2;exact ⟨v,h3,h4.mono W2⟩
   ·simp only [dM.own,dM.mem,d5.with,bS,nz,cR];grind
end
open Go
open Go.RowKit (Below)
theorem cq {c} {s} {a:Act} (b:∀ d x,get s.t d=some x->RC c x (a.tmps.getD d Go.undef)) (x):RC c (ev s x) (a.eval x):=by
 cases x with
 | tmp t=>
  simp only [ev,St.tmp,Act.eval]
  cases e:get s.t t with
  | none=>exact RD.junk _
  | some v=>exact b t v e
 | const v=>exact RC.of_RD (RD.cst _ _)
 | global g=>exact RD.junk _
 | func f=>exact RD.fn f
section
variable {Γ:cr} (hΓ:Γ.OK) {T:eX} (hT:T.OK Γ.P) {s:St} {K:St->Prop} {o:Oper} {a:Act} {w:World}
 {next:Act->World->Prop} {Q:Exit->Act->World->Prop}
def dS (Γ:cr) (a:Act) (dst:Option Nat) (w:World) (K:St->Prop) (next:Act->World->Prop):Prop:=∀ s' b w',K s'->ef Γ s' b w'->NC w w'->(∃ v,b=a.put dst v)->next b w'
theorem gL {a:Act} {d} {v} {dst} (h:dst=some d):∃ u,a.put (some d) v=a.put dst u:=⟨v,by rw [h]⟩
theorem lC {a:Act} {dst} (h:dst=none):∃ u,a=a.put dst u:=⟨Go.undef,by rw [h]; rfl⟩
include hΓ hT in
theorem OL (l:ef Γ s a w) (r:∀ d,o.dst=some d->d<Γ.nt)
  (h:gM T (ar Γ.P) s.b (ev s) o.type o.op fun v=>v.go fun v=>fJ s o.dst v K) (q:dS Γ a o.dst w K next):o.wpIn Γ.F Γ.n Γ.P a w next Q:=by
 obtain ⟨c,u,p⟩:=l.ex;refine CP hΓ hT h rfl u (fun x _=>cq p x) ?_;intro x v w' c' j hle f m hx;rw [AV.go_eq] at j;obtain ⟨t,b⟩:=s
 cases e:o.dst with
 | none=>
  rw [e] at j;exact q _ _ _ j (l.next m f (d:=none) (v:=v) (by intro k hk; cases hk) (fun k y hy=>(p k y hy).mono hle)) m (lC e)
 | some d=>
  rw [e] at j;have i:=r d e;exact q _ _ _ j (l.next m f (d:=some d) (v:=v) (by grind) (eT (fun k y hy=>(p k y hy).mono hle) (by rw [l.size]; exact i) hx)) m (gL e)
theorem Tu (e:ef Γ s a w) {d k sz} (f:d<Γ.nt) {c} (i:∀ k x,get s.t k=some x->RC c x (a.tmps.getD k Go.undef)) {w'} {m'} (hle:c.m.le m') {r} (l:NC w w')
  (h:WI Γ ((c.mem m').own k r sz) (Et k s.b) w') {x} (hx:RC ((c.mem m').own k r sz) x r):ef Γ ⟨(d,x)::(s.dem k).t,(s.dem k).b⟩ (a.put (some d) r) w':=by
 refine e.next l (c:=(c.mem m').own k r sz) h (d:=some d) (v:=r) (by grind) (eT (fun j y hy=>?_) (by rw [e.size]; exact f) hx);rw [mI] at hy;obtain ⟨z,hz,rfl⟩:=aA.1 hy;exact (i j z hz).reown hle
include hΓ hT in
theorem Ip {args} {U} (ho:o.op = .call { callee := .builtin .append,args:=args,argTypes:=U }) (X:ef Γ s a w) (hd:∀ d,o.dst=some d->d<Γ.nt)
  (h:nu T (ar Γ.P) s o.dst o.type (.call { callee := .builtin .append,args:=args,argTypes:=U }) K) (hn:dS Γ a o.dst w K next):o.wpIn Γ.F Γ.n Γ.P a w next Q:=by
 obtain ⟨c,hW,M⟩:=X.ex;simp only [nu] at h;split at h
 ·rename_i x y t t' d hx D e;have m:=hd d e;split at h
  ·rename_i i hi;split at h
   ·rename_i j hj;split at h
    ·rename_i Z sz xs ow' sz' L hxs hys
     cases hb:(Nat.beq i.kind 3&&Nat.beq t t'&&n0 j&&Nat.blt 0 j.size&&IG Z j.size sz) with
     | false=>grind
     | true=>
      simp only [hb,aP] at h;simp only [al] at hb;obtain ⟨⟨⟨⟨b1,b2⟩,N⟩,b4⟩,b5⟩:=hb;have B:=ak b1;have htt:=ak b2;subst htt;obtain ⟨h,hsx⟩:=mG h;obtain ⟨h,hsy⟩:=mG h;obtain ⟨u,J,h⟩:=h;have H:0<j.size:=ah b4;unfold n0 at N;split at N
      ·rename_i zs hz;have z:=ak N;have q:=cq M x;rw [hxs] at q;have A:=cq M y;rw [hys] at A;have p:=(eD (by intro cs G; cases G)).1 q;have f:=(eD (by intro cs G; cases G)).1 A;obtain ⟨args⟩:=args;obtain ⟨U⟩:=U;simp only at hx D;subst hx;subst D
       have l:∀ r w',(Builtin.append_ #[t,t] o.type #[a.eval x,a.eval y]).run Γ.P w = .ok r w'->(execOp a.eval o).run Γ.P w = .ok (.value r) w':=by
        intro r w' hr;simp only [execOp,ho,aD,ec,aw,invoke,builtin,eE,cp,eZ,hr,aL]
       have fin:∀ k,((Z = .full/\Np xs L=true)\/(Z = .id k/\(j.size=sz\/sz=0)))->K ⟨(d,.sl (.id k) j.size (xs++L))::(s.dem k).t,(s.dem k).b⟩->o.wpIn Γ.F Γ.n Γ.P a w next Q:=by
        intro k hok hK;obtain ⟨r,w',m',r1,r2,r3,r4,r5⟩:=No hT hW hi B hj hz z H p f hsx hsy u J hok o.type;refine cX hΓ (by grind) (l r w' r1) ?_;rw [e];exact hn _ _ _ hK (Tu X m M r2 r4 r3 ((eD (by intro cs G; cases G)).2 r5)) r4 (gL e)
       cases Z with
       | full=>
        cases ha:Np xs L with
        | true=>grind
        | false=>
         simp only [ha,bq] at h
         cases E:tl L with
         | true=>grind
         | false=>
          rw [E,bq] at h;have hKK:K ⟨(d,.sl .full sz xs)::s.t,s.b⟩:=h
          cases L with
          | cons y r=>cases E
          | nil=>
           have hr:=AF (w:=w) hT hi B hj hz z p f o.type;refine cX hΓ (by grind) (l _ _ hr) ?_;rw [e];exact hn _ _ _ hKK (X.next (.refl w) hW (d:=some d) (v:=a.eval x) (by grind) (eT (fun k y hy=>M k y hy) (by rw [X.size]; exact m) q) ) (.refl w) (gL e)
       | id k=>
        refine fin k (.inr ⟨rfl,?_⟩) h;simp only [IG,cu] at b5;grind [Nat.eq_of_beq_eq_true]
       | no=>exact h.elim
      ·cases N
    ·exact h.elim
   ·exact h.elim
  ·exact h.elim
 ·exact h.elim
end
open Go
open Go.RowKit (Below)
section
variable {Γ:cr} (hΓ:Γ.OK) {T:eX} (hT:T.OK Γ.P) {s:St} {K:St->Prop} {o:Oper} {a:Act} {w:World}
 {next:Act->World->Prop} {Q:Exit->Act->World->Prop}
include hT in
theorem mO {t} {i} (g:get T t=some i) {cs} (hz:i.zero.cells?=some cs):∃ z,(zeroValue t).run Γ.P w = .ok z w/\cs.length=z.cells.size/\∀ (m:d5) (n:Nat) (x:AV) (u:Value),cs[n]?=some x->z.cells[n]?=some u->RD m x u:=by
 obtain ⟨j,d,h1,h2,b⟩:=eo hT g;simp only [TI.of,h1,h2,aB] at b;have hzero:=(ax TI.zero b).symm;simp only at hzero;clear b
 cases hj:j.zero with
 | none=>rw [hj] at hzero; simp only at hzero; rw [hzero] at hz; cases hz
 | some z=>
  rw [hj] at hzero;simp only at hzero;refine ⟨z,by simp only [zeroValue,typeInfo,aD,yr,aw,h1,aL,hj],?_⟩;rw [hzero] at hz
  have one:∀ z:Value,(cst z).cells?=some cs->cs.length=z.cells.size/\∀ (m:d5) (n:Nat) (x:AV) (u:Value),cs[n]?=some x->z.cells[n]?=some u->RD m x u:=by
   intro z hz
   have e:(cst z).isCell=true/\cs=[cst z]:=by
    unfold cst at hz ⊢;grind [AV.cells?,AV.isCell]
   obtain ⟨c,rfl⟩:=e;have h1:=RD.one (RD.cst ⟨fun _ _=>none,fun _=>none⟩ z) c;rw [h1.2];refine ⟨rfl,fun m n x u g1 g2=>?_⟩
   cases n with
   | zero=>grind [RD.cst]
   | succ n=>simp at g1
  cases z with
  | agg vs=>
   simp only [Rc,AV.cells?,aB] at hz;subst hz;refine ⟨by simp [Value.cells],fun m n x u g1 g2=>?_⟩;rw [aT] at g1;obtain ⟨v,hv,rfl⟩:=aA.1 g1;have:vs[n]?=some v:=by simpa using hv
   grind [Value.cells,RD.cst]
  | _=>exact one _ hz
theorem yU (l news:List Value) (off n) (h:off+news.length<=l.length):(l.take off++news++l.drop (off+news.length)).toArray[n]?=if off<=n/\n<off+news.length then news[n - off]? else l[n]?:=by
 grind
theorem wE (d:Nat):∀ (cs:List AV) (vs:List Value) (f:Nat) (c:dM) (s:St),WI Γ c s.b w->(∀ k x,get s.t k=some x->RC c x (a.tmps.getD k Go.undef))->cs.length=vs.length ->
  (∀ (i:Nat) (x:AV) (v:Value),cs[i]?=some x->vs[i]?=some v->RD c.m x v) ->
  ∃ c',c'.m=c.m/\c'.ρ=c.ρ/\WI Γ c' (s.demMany (o6 d f cs)).b w/\(∀ k x,get (s.demMany (o6 d f cs)).t k=some x->RC c' x (a.tmps.getD k Go.undef))/\(fm d f cs).length=cs.length /\
   (∀ (i:Nat) (x:AV) (v:Value),(fm d f cs)[i]?=some x->vs[i]?=some v->fD c' x v)/\∀ k,(∀ j,f<=j->k≠nF d j)->c'.τ k=c.τ k/\c'.σ k=c.σ k
 | [],vs,f,c,s,A,q,_,_=>⟨c,rfl,rfl,A,q,rfl,by simp [fm],fun k _=>⟨rfl,rfl⟩⟩
 | x::r,vs,f,c,s,A,q,hl,D=>by
  cases vs with
  | nil=>cases hl
  | cons v vs=>
   have hx:=D 0 x v rfl rfl
   have other:o6 d f (x::r)=o6 d (f+1) r->fm d f (x::r)=x::fm d (f+1) r->∃ c',c'.m=c.m/\c'.ρ=c.ρ/\WI Γ c' (s.demMany (o6 d f (x::r))).b w /\
     (∀ k p,get (s.demMany (o6 d f (x::r))).t k=some p->RC c' p (a.tmps.getD k Go.undef))/\(fm d f (x::r)).length=(x::r).length /\
     (∀ (i:Nat) (p:AV) (F:Value),(fm d f (x::r))[i]?=some p->(v::vs)[i]?=some F->fD c' p F)/\∀ k,(∀ j,f<=j->k≠nF d j)->c'.τ k=c.τ k/\c'.σ k=c.σ k:=by
    intro J G;obtain ⟨c',g1,g2,g3,g4,g5,g6,g7⟩:=wE d r vs (f+1) c s A q (by simpa using hl) (fun i y u h1 h2=>D (i+1) y u h1 h2);rw [J,G];refine ⟨c',g1,g2,g3,g4,by simp [g5],fun i y u h1 h2=>?_,fun k hk=>g7 k (fun j hj=>hk j am)⟩
    cases i with
    | zero=>grind [fD.of_RD]
    | succ i=>exact g6 i y u h1 h2
   cases x with
   | sl H sz xs=>
    cases H with
    | full=>
     cases sz with
     | zero=>
      cases xs with
      | nil=>
       have l:kY v=false/\np (sfree Γ.w0 (nF d f)) v:=by
        cases hx with
        | sl _ _ _ base len cap M hf E U=>
         have:=hf rfl;exact ⟨by simp [kY,this],.inr ⟨_,_,_,rfl,fun _=>this.symm,fun a _ L=>by simp at E; omega⟩⟩
       have B:=A.own_none (nF d f) 0 v l.2 l.1
       obtain ⟨c',g1,g2,g3,g4,g5,g6,g7⟩:=wE d r vs (f+1) ((c.mem c.m).own (nF d f) v 0) (s.dem (nF d f)) B (fun k y hy=>by
        rw [mI] at hy;obtain ⟨z,hz,rfl⟩:=aA.1 hy;exact (q k z hz).reown (.refl _)) (by simpa using hl) (fun i y u h1 h2=>D (i+1) y u h1 h2)
       refine ⟨c',g1,g2,g3,g4,by simp [fm,g5],fun i y u h1 h2=>?_,fun k hk=>?_⟩
       ·cases i with
        | zero=>
         simp only [fm,bD,aB] at h1 h2;subst h1;subst h2;have:=g7 (nF d f) (fun j hj e=>by unfold nF at e; omega);refine ⟨by rw [this.1]; simp [dM.own],fun h=>(by rw [l.1] at h; cases h),?_⟩;rw [g1];exact hx.no
        | succ i=>exact g6 i y u h1 h2
       ·have h1:=g7 k (fun j hj=>hk j am);have h2:=hk f (ba _);rw [h1.1,h1.2];simp [dM.own,dM.mem,h2]
      | cons y N=>exact other rfl rfl
     | succ n=>exact other rfl rfl
    | no=>exact other rfl rfl
    | id k=>exact other rfl rfl
   | _=>exact other rfl rfl
theorem qH {c} {t} (f:∀ k x,get t k=some x->RC c x (a.tmps.getD k Go.undef)) {d} (e:d<a.tmps.size) (b) :
  ∀ k y,get ((d,.loc d 0)::unloc d t) k=some y->RC (c.at d b) y ((a.put (some d) (.pointer (some ⟨b,0,none⟩))).tmps.getD k Go.undef):=by
 refine eT (c:=c.at d b) (fun k y hy=>?_) e ?_
 ·rw [QH] at hy;obtain ⟨z,hz,rfl⟩:=aA.1 hy;exact (f k z hz).unloc d b
 ·show _=_;simp [dM.at]
include hΓ hT in
theorem WW {t} (G:o.op = .alloc t) (p:ef Γ s a w) (A:∀ d,o.dst=some d->d<Γ.nt) (h:nu T (ar Γ.P) s o.dst o.type (.alloc t) K) (H:dS Γ a o.dst w K next):o.wpIn Γ.F Γ.n Γ.P a w next Q:=by
 obtain ⟨c,D,B⟩:=p.ex;simp only [nu] at h;split at h
 ·rename_i d i b hi;have f:=A d b;split at h
  ·rename_i cs q
   cases m:Nat.beq cs.length i.size&&cs.all (fun c=>c.isCell) with
   | false=>grind
   | true=>
    rw [m] at h;simp only [aP] at h;simp only [al,aN] at m;obtain ⟨z,E,z2,z3⟩:=mO hT (w:=w) hi q;obtain ⟨c',g1,g2,g3,g4,g5,g6,g7⟩:=wE (a:=a) d cs z.cells.toList 0 c s D B (by simpa using z2) (fun i x v h1 h2=>z3 _ i x v h1 (by simpa using h2))
    have e:∀ x∈fm d 0 cs,x.isCell=true:=by
     have:∀ (cs:List AV) (j:Nat),(∀ x∈cs,x.isCell=true)->∀ x∈fm d j cs,x.isCell=true:=by
      intro cs
      induction cs with
      | nil=>intro j _ x hx; simp [fm] at hx
      | cons y r J=>
       intro j l x hx;have ih':=J (j+1) (fun z hz=>l z (aS _ hz));unfold fm at hx;split at hx
       ·rename_i heq; cases heq
       ·rename_i heq;cases heq;rcases bC.1 hx with rfl | hx
        ·rfl
        ·exact ih' x hx
       grind
     exact this cs 0 m.2
    have u:=g3.newBox d t (cs:=fm d 0 cs) (vs:=z.cells) (by rw [g5,z2]) e (fun i x v h1 h2=>g6 i x v h1 (by simpa using h2));refine cX hΓ (by grind) (v := .pointer (some ⟨w.heap.size,0,none⟩)) (w':=w.alloc (.cells z.cells t)) ?_ ?_
    ·simp only [execOp,G,Instr.alloc,aD,E,aw,newVar,newRow,wd,aL,oO]
    ·rw [b];exact H _ _ _ h (p.next (lQ _ (el _ _)) u (d:=some d) (by grind) (qH g4 (by rw [p.size]; exact f) _)) (lQ _ (el _ _)) (gL b)
  ·exact h.elim
 ·exact h.elim
include hΓ hT in
theorem Iq {t} {d} {i} {cs} (r:o.op = .alloc t) (l:ef Γ s a w) (q:∀ d,o.dst=some d->d<Γ.nt) (e:o.dst=some d) (hi:get T t=some i) (m:i.zero.cells?=some cs) (f:∀ x∈cs,x.isCell=true) (K)
  (h:K ⟨(d,.loc d 0)::unloc d s.t,(d,cs)::s.b⟩) (y:dS Γ a (some d) w K next):o.wpIn Γ.F Γ.n Γ.P a w next Q:=by
 obtain ⟨c,A,u⟩:=l.ex;have j:=q d e;obtain ⟨z,B,z2,z3⟩:=mO hT (w:=w) hi m;have p:=A.newBox d t (cs:=cs) (vs:=z.cells) (by rw [z2]) f (fun i x v h1 h2 => .of_RD (z3 _ i x v h1 h2));refine cX hΓ (by grind) (v := .pointer (some ⟨w.heap.size,0,none⟩)) (w':=w.alloc (.cells z.cells t)) ?_ ?_
 ·simp only [execOp,r,Instr.alloc,aD,B,aw,newVar,newRow,wd,aL,oO]
 ·rw [e];exact y _ _ _ h (l.next (lQ _ (el _ _)) p (d:=some d) (by grind) (qH u (by rw [l.size]; exact j) _)) (lQ _ (el _ _)) (gL rfl)
include hΓ hT in
theorem aaF {t} {x} (u:o.op = .box t x) (j:ef Γ s a w) (q:∀ d,o.dst=some d->d<Γ.nt) (h:nu T (ar Γ.P) s o.dst o.type (.box t x) K) (y:dS Γ a o.dst w K next):o.wpIn Γ.F Γ.n Γ.P a w next Q:=by
 obtain ⟨c,r,p⟩:=j.ex;simp only [nu] at h;split at h
 ·rename_i d i cs b hi l;have e:=q d b
  cases f:Nat.beq cs.length i.size&&cs.all (fun c=>c.isCell) with
  | false=>grind
  | true=>
   rw [f] at h;simp only [aP] at h;simp only [al,aN] at f;obtain ⟨g1,g2⟩:=(cq p x).cells0 l;have m:=r.newBox d t g1 f.2 g2;refine cX hΓ (by grind) (v := .pointer (some ⟨w.heap.size,0,none⟩)) (w':=w.alloc (.cells (a.eval x).cells t)) ?_ ?_
   ·simp only [execOp,u,Instr.box,aD,newVar,newRow,wd,aw,aL,oO]
   ·rw [b];exact y _ _ _ h (j.next (lQ _ (el _ _)) m (d:=some d) (by grind) (qH p (by rw [j.size]; exact e) _)) (lQ _ (el _ _)) (gL b)
 ·exact h.elim
include hΓ hT in
theorem OM {t} {x y} (ho:o.op = .store t x y) (N:ef Γ s a w) (h:nu T (ar Γ.P) s o.dst o.type (.store t x y) K) (hn:dS Γ a o.dst w K next):o.wpIn Γ.F Γ.n Γ.P a w next Q:=by
 obtain ⟨c,J,B⟩:=N.ex;simp only [nu] at h;split at h
 ·rename_i i d off cs j hi hx H
  cases A:Nat.beq cs.length i.size&&cs.all (fun c=>c.isCell) with
  | false=>grind
  | true=>
   rw [A] at h;simp only [aP] at h;simp only [al,aN] at A;split at h
   ·rename_i b e;unfold Dv at e;simp only [lr] at e;split at e
    ·cases e
    rename_i ds q
    cases f:Nat.ble (off+cs.length) ds.length&&Nat.blt 0 cs.length with
    | false=>grind
    | true=>
     rw [f] at e;simp only [aP,aB] at e;subst e;simp only [al] at f;have hle:=ah f.1;have L:1<=cs.length:=ah f.2;have p:ds≠[]:=by rintro rfl; rw [kr] at hle; omega
     obtain ⟨q1,q2,q3,vs,U,q4,q5,Z⟩:=J.box d ds q p;obtain ⟨g1,g2⟩:=(cq B y).cells0 H;have M:=cq B x;rw [hx] at M
     have u:∀ v∈(a.eval y).cells.toList,v.oneCell'=true:=by
      intro v hv;obtain ⟨n,r,E⟩:=cI hv;have m:n<cs.length:=by rw [g1]; simpa using r
      have h1:(a.eval y).cells[n]?=some v:=by
       rw [<- E,<- cU]; exact ai r
      exact ((g2 n _ v (ai m) h1).one (A.2 _ (bX m))).1
     have D:=oM Γ.P (c.ρ d) off U (a.eval y).cells.toList 0 vs w q4 (by grind) u
     have l:mj c (setMany ds off cs) (vs.toList.take (off+0)++(a.eval y).cells.toList++vs.toList.drop (off+0+(a.eval y).cells.toList.length)).toArray:=by
      have h1:=mj.setMany (c:=c) (ds:=cs) (us:=(a.eval y).cells.toList) (cs:=ds) (vs:=vs) ⟨q5,Z⟩ (by simpa using g1) (fun i x v h1 h2=>g2 i x v h1 (by simpa using h2)) off;have h2:=wU (a.eval y).cells.toList off vs;refine ⟨by rw [h1.1,h2.1]; simp; omega,fun n x v e1 e2=>h1.2 n x v e1 ?_⟩;rw [h2.2,<- e2,yU _ _ _ _ (by grind),eb];by_cases c1:off<=n/\n<off+(a.eval y).cells.toList.length
      ·grind
      ·grind
     obtain ⟨W1,X⟩:=J.storeBox q p l.1 (fun z hz=>by grind [nE]) l.2;refine mM hΓ (by grind) (w':=w.setRow (c.ρ d) (vs.toList.take (off+0)++(a.eval y).cells.toList++vs.toList.drop (off+0+(a.eval y).cells.toList.length)).toArray) ?_ ?_
     ·have G:(a.eval y).cells.size=i.size:=by rw [<- g1]; exact ak A.1
      simp only [execOp,ho,M.loc,Instr.storeAt,Instr.sureAddr,aD,aL,aw,storeVar,eU hT hi,G,Bg,iO,cv,D]
     ·rw [j];exact hn _ _ _ h (N.next X W1 (d:=none) (v:=Go.undef) (by intro k hk; cases hk) B) X (lC j)
   ·exact h.elim
 ·exact h.elim
end
open Go
open Go.RowKit (Below)
section
variable {Γ:cr} (hΓ:Γ.OK) {T:eX} (hT:T.OK Γ.P) {s:St} {K:St->Prop} {o:Oper} {a:Act} {w:World}
 {next:Act->World->Prop} {Q:Exit->Act->World->Prop}
theorem QK (s:St) (d) (cs) (k):get (s.frz d cs).t k=(get s.t k).map (AV.frz d cs):=by unfold St.frz; rw [o9]; exact lw (fun (_:Nat) (v:AV)=>v.frz d cs) s.t k
theorem pB:∀ (xs:List Operand) (s:St) (K:St->List AV->Prop) (c:dM),BE xs s K->WI Γ c s.b w->(∀ k x,get s.t k=some x->RC c x (a.tmps.getD k Go.undef)) ->
  ∃ s' l c',K s' l/\c.m.le c'.m/\WI Γ c' s'.b w/\(∀ k x,get s'.t k=some x->RC c' x (a.tmps.getD k Go.undef))/\l.length=xs.length/\∀ (i:Nat) (x:AV) (p:Operand),l[i]?=some x->xs[i]?=some p->RD c'.m x (a.eval p)
 | [],s,K,c,h,f,e=>⟨s,[],c,h,.refl _,f,e,rfl,by simp⟩
 | p::r,s,K,c,h,f,e=>by
  have j:=cq e p
  have plain:∀ v,ev s p=v->(bif v.isCell then BE r s (fun s l=>K s (v.pub1::l)) else False)->∃ s' l c',K s' l/\c.m.le c'.m/\WI Γ c' s'.b w/\(∀ k x,get s'.t k=some x->RC c' x (a.tmps.getD k Go.undef))/\l.length=(p::r).length /\
    ∀ (i:Nat) (x:AV) (q:Operand),l[i]?=some x->(p::r)[i]?=some q->RD c'.m x (a.eval q):=by
   intro v hv h
   cases B:v.isCell with
   | false=>grind
   | true=>
    rw [B] at h;obtain ⟨s',l,c',g1,g2,g3,g4,g5,g6⟩:=pB r s _ c h f e;refine ⟨s',_,c',g1,g2,g3,g4,by simp [g5],fun i x q h1 h2=>?_⟩
    cases i with
    | zero=>
     simp only [bD,aB] at h1 h2;subst h1;subst h2;rw [hv] at j;have:fD c v (a.eval p):=(eD (by rintro cs rfl; simp [AV.isCell] at B)).1 j;exact this.pub.mono g2
    | succ i=>exact g6 i x q h1 h2
  unfold BE at h;split at h
  ·rename_i d n;split at h
   ·rename_i y A D;obtain ⟨m',m1,m2,m3⟩:=f.freeze D dc
    have u:∀ k x,get (s.frz d ((y::A).map AV.pub1)).t k=some x->RC (c.mem m') x (a.tmps.getD k Go.undef):=by
     intro k x hk;rw [QK] at hk;obtain ⟨z,hz,rfl⟩:=aA.1 hk;exact (e k z hz).frz m1 m3
    obtain ⟨s',l,c',g1,g2,g3,g4,g5,g6⟩:=pB r (s.frz d ((y::A).map AV.pub1)) _ (c.mem m') h m2 u;refine ⟨s',_,c',g1,m1.trans g2,g3,g4,by simp [g5],fun i x q h1 h2=>?_⟩
    cases i with
    | zero=>
     simp only [bD,aB] at h1 h2;subst h1;subst h2;rw [n] at j;rw [show a.eval p=_ from j.loc];exact m3.mono g2
    | succ i=>exact g6 i x q h1 h2
   ·exact h.elim
  ·exact plain _ rfl h
include hΓ in
theorem zy {f} {first captured} (G:o.op = .makeFunc (.func f) first captured) (p:ef Γ s a w) (z:∀ d,o.dst=some d->d<Γ.nt)
  (h:nu T (ar Γ.P) s o.dst o.type (.makeFunc (.func f) first captured) K) (y:dS Γ a o.dst w K next):o.wpIn Γ.F Γ.n Γ.P a w next Q:=by
 obtain ⟨c,B,A⟩:=p.ex;simp only [nu] at h
 cases hf:first.toList.isEmpty with
 | false=>grind
 | true=>
  rw [hf] at h;simp only [aP] at h;obtain ⟨s',l,c',g1,g2,g3,g4,g5,g6⟩:=pB _ s _ c h B A
  have r:first=#[]:=by
   obtain ⟨E⟩:=first
   cases E with
   | nil=>rfl
   | cons _ _=>cases hf
  have u:RD c'.m (.clo f l) (.func (.func f) #[] (captured.map a.eval)):=by
   refine .clo _ _ _ (by simpa using g5) (fun i x v h1 h2=>?_);rw [Oq] at h2;obtain ⟨q,D,rfl⟩:=aA.1 h2;exact g6 i x q h1 (by simpa using D)
  refine cX hΓ (by grind) (v := .func (.func f) #[] (captured.map a.eval)) (w':=w) (by grind [execOp,Instr.makeFunc,Sem.run_bind,Sem.run_pure,Result.andThen_ok]) ?_;obtain ⟨t,b⟩:=s'
  cases e:o.dst with
  | none=>
   rw [e] at g1;exact y _ _ _ g1 (p.next (.refl w) g3 (d:=none) (v:=Go.undef) (by intro k hk; cases hk) g4) (.refl w) (lC e)
  | some d=>
   rw [e] at g1;have j:=z d e;exact y _ _ _ g1 (p.next (.refl w) g3 (d:=some d) (by grind) (eT g4 (by rw [p.size]; exact j) (RC.of_RD u))) (.refl w) (gL e)
include hΓ in
theorem YD {x} (hx:x = .const (.slice none 0 0)) (m:o.op = .assign x\/o.op = .move x) (q:ef Γ s a w) (r:∀ d,o.dst=some d->d<Γ.nt)
  (h:match o.dst,get T o.type with
   | some d,some i=>match get T i.elem with
    | some j=>bif Nat.beq i.kind 3 then match s.dem d with | ⟨t,b⟩=>K ⟨(d,.sl (.id d) j.size [])::t,b⟩ else False
    | none=>False
   | _,_=>False) (y:dS Γ a o.dst w K next):o.wpIn Γ.F Γ.n Γ.P a w next Q:=by
 obtain ⟨c,z,v⟩:=q.ex;split at h
 ·rename_i d i e hi;have l:=r d e;split at h
  ·rename_i j hj
   cases hk:Nat.beq i.kind 3 with
   | false=>grind
   | true=>
    rw [hk] at h;have p:=z.own_none d j.size (.slice none 0 0) (.inl rfl) rfl
    have f:(execOp a.eval o).run Γ.P w = .ok (.value (.slice none 0 0)) w:=by
     subst hx;rcases m with m | m <;> (simp only [execOp,m]; rfl)
    refine cX hΓ (by grind) f ?_;rw [e];refine y _ _ _ h (Tu q l v (.refl _) (.refl w) p ((eD (by intro cs A; cases A)).2 ⟨by simp [dM.own],fun u=>(by cases u),?_⟩)) (.refl w) (gL e);exact .sl _ _ _ _ _ _ (by intro k hk; cases hk) (by intro hk; cases hk) rfl (ba _) dc dc 0 0 am (fun _ _=>Go.undef) dc dc
  ·exact h.elim
 ·exact h.elim
theorem sH (zs) (n k) (hz:0<zs.size) (hk:k<n):(madeCells zs n)[k]?=zs[k % zs.size]?:=by
 grind [Nat.mod_lt,madeCells]
include hΓ hT in
theorem xG {t} {p q} (ho:o.op = .makeSlice t p q) (hI:ef Γ s a w) (hd:∀ d,o.dst=some d->d<Γ.nt)
  (h:nu T (ar Γ.P) s o.dst o.type (.makeSlice t p q) K) (hn:dS Γ a o.dst w K next):o.wpIn Γ.F Γ.n Γ.P a w next Q:=by
 obtain ⟨c,hW,G⟩:=hI.ex;simp only [nu] at h;split at h
 ·rename_i d i b hi;have A:=hd d b;split at h
  ·rename_i j hj;split at h
   ·rename_i k1 l k2 n hl X;split at h
    ·rename_i u B
     cases J:Nat.beq i.kind 3&&Nat.beq u.length j.size&&u.all (fun c=>c.isCell)&&Nat.blt 0 j.size with
     | false=>grind
     | true=>
      rw [J] at h;simp only [aP] at h;simp only [al,aN] at J;obtain ⟨⟨⟨b1,b2⟩,b3⟩,b4⟩:=J;obtain ⟨h0,N,r,hmax,hK⟩:=h;have y:0<j.size:=ah b4;have hu:=ee hT hi (ak b1);have L:=ak b2;obtain ⟨q',z,q1,q2,q3,q4,q5,_⟩:=jq (c:=c) w hT hj B L;obtain ⟨m,z1,z2,z3⟩:=mO hT (w:=w) hj B
      have U:m=z:=by
       simp only [zeroValue,typeInfo,aD,yr,aw,q1,aL,q4,aat,tH] at z1;exact z1.symm
      subst U;have hp:=cq G p;rw [hl] at hp;have Z:=cq G q;rw [X] at Z
      have e:(q'.bytes:Int)*n<=281474976710656:=by
       unfold gR at r;have:((n.toNat*j.bytes:Nat):Int)<=70368744177664:=by omega
       rw [q3,oe];rw [Int.natCast_mul,Int.toNat_of_nonneg am] at this;omega
      have f:=run_make (P:=Γ.P) w t i.elem q' m hu q1 q4 k1 k2 l n h0 N e am;rw [q2] at f;have M:(madeCells m.cells (n.toNat*j.size)).size=n.toNat*j.size:=by simp [madeCells]
      obtain ⟨W1,W2,W3⟩:=hW.own_new d j.size l.toNat n.toNat (madeCells m.cells (n.toNat*j.size)) i.elem M am;refine cX hΓ (by grind) (v := .slice (some ⟨w.heap.size,0,none⟩) l.toNat n.toNat) (w':=w.alloc (.cells (madeCells m.cells (n.toNat*j.size)) i.elem)) ?_ ?_
      ·simp only [execOp,ho,hp.int,Z.int,aD,f,aw,aL]
      ·rw [b];refine hn _ _ _ hK (Tu hI A G W2 W3 W1 ((eD (by intro cs X; cases X)).2 ⟨by simp [dM.own],fun _=>⟨by simp [dM.own],y⟩,?_⟩)) W3 (gL b)
       have D:∀ (i:Nat) (x:List AV),(List.replicate l.toNat u)[i]?=some x->i<l.toNat/\x=u:=by
        intro i x hx;rw [yO] at hx;split at hx
        ·grind
        ·cases hx
       refine tO (l:=(madeCells m.cells (n.toNat*j.size)).toList) (by intro k hk; cases hk) (by intro hk; cases hk) dc am (fun x hx=>by grind) (fun x hx=>by grind)
        (fun i x p c' h1 h2=>?_) (fun p v hp' E=>?_)
       ·obtain ⟨hi',H⟩:=D i x h1;rw [H] at h2;have hpl:p<u.length:=(aq.1 h2).1;have hpz:p<m.cells.size:=by omega
        have E:i*j.size+p<n.toNat*j.size:=by
         have:(i+1)*j.size<=n.toNat*j.size:=bg _ am;rw [A7] at this; omega
        grind [Array.getElem?_eq_getElem,sH,Nat.mul_comm,Nat.mul_add_mod,Nat.mod_eq_of_lt]
       ·simp only [dM.own,dM.mem,d5.with,bS,cR];grind
    ·exact h.elim
   ·exact h.elim
  ·exact h.elim
 ·exact h.elim
include hΓ hT in
theorem eL {op} (b:o.op=op) (c:ef Γ s a w) (f:∀ d,o.dst=some d->d<Γ.nt) (h:nu T (ar Γ.P) s o.dst o.type op K) (e:dS Γ a o.dst w K next):o.wpIn Γ.F Γ.n Γ.P a w next Q:=by
 unfold nu at h;split at h
 ·exact aaF hΓ hT b c f (by simpa only [nu] using h) e
 ·exact WW hΓ hT b c f (by simpa only [nu] using h) e
 ·exact OM hΓ hT b c (by simpa only [nu] using h) e
 ·exact zy (T:=T) hΓ b c f (by simpa only [nu] using h) e
 ·exact YD hΓ rfl (.inl b) c f h e
 ·exact YD hΓ rfl (.inr b) c f h e
 ·exact xG hΓ hT b c f (by simpa only [nu] using h) e
 ·exact Ip hΓ hT b c f (by simpa only [nu] using h) e
 grind [OL]
end
open Go
open Go.RowKit (Below)
structure dM.leX (k:Nat) (c c':dM):Prop where
 m:c.m.le c'.m
 ρ:c'.ρ=c.ρ
 τ:c'.τ=c.τ
 σ:c'.σ=c.σ
 x:∀ j,j≠k->c'.x j=c.x j/\c'.xn j=c.xn j
theorem fD.leX_cell {k} {c c'} (h:c.leX k c') {x} {v} (r:fD c x v) (hx:x.isCell=true):fD c' x v:=by
 cases x with
 | me g j n xs=>simp [AV.isCell] at hx
 | loc d off=>simp [AV.isCell] at hx
 | sl o sz xs=>
  cases o with
  | id k=>obtain ⟨r1,b,a⟩:=r; exact ⟨by rw [h.τ]; exact r1,by rw [h.σ]; exact b,a.mono h.m⟩
  | no=>exact RD.mono h.m (show RD c.m _ v from r)
  | full=>exact RD.mono h.m (show RD c.m _ v from r)
 | _=>exact RD.mono h.m (show RD c.m _ v from r)
theorem RX.leX {k} {c c'} (h:c.leX k c') {g} {j n} {xs} {v} (r:RX c g j n xs v) (hj:j≠k):RX c' g j n xs v:=by
 obtain ⟨h1,h2⟩:=h.x j hj
 cases g with
 | sl=>grind [RX]
 | ptr sz q=>simp only [RX,h1] at r ⊢; exact r
 | arr=>
  obtain ⟨b,cells,T,r1,r0,f,a,d⟩:=r;exact ⟨b,cells,T,by rw [h1]; exact r1,by rw [h2]; exact r0,f,a,fun i r j y h1 h2=>let ⟨u,o,z⟩:=d i r j y h1 h2; ⟨u,o,z.mono h.m⟩⟩
 | row b cap=>
  obtain ⟨cells,T,r1,r0,f,a,d⟩:=r;exact ⟨cells,T,by rw [h1]; exact r1,by rw [h2]; exact r0,f,a,fun i r j y h1 h2=>let ⟨u,o,z⟩:=d i r j y h1 h2; ⟨u,o,z.mono h.m⟩⟩
 | mp=>simp only [RX,h1] at r ⊢; exact r
 | sub sz l=>grind [RX]
 | box=>
  obtain ⟨cells,T,own,r1,f,a,d,p⟩:=r;exact ⟨cells,T,own,by rw [h1]; exact r1,f,a,d,fun i y u h1 h2=>(p i y u h1 h2).mono h.τ h.σ h.m⟩
 | ents=>
  obtain ⟨es,clock,r1,f,a,d,p,A⟩:=r;exact ⟨es,clock,by rw [h1]; exact r1,f,a,d,fun i x e y h1 h2 t=>(p i x e y h1 h2 t).mono h.m,fun i x e y h1 h2 t=>(A i x e y h1 h2 t).mono h.m⟩
theorem RC.leX {k} {c c'} (h:c.leX k c') {x} {v} (r:RC c x v):RC c' (x.unme k) v:=by
 cases x with
 | me g j n xs=>
  simp only [AV.unme]
  cases e:Nat.beq k j with
  | true=>exact RD.junk v
  | false=>exact RX.leX h (show RX c g j n xs v from r) (Ne.symm (dk e))
 | agg cs=>obtain ⟨vs,r1,f,b,l⟩:=r; exact ⟨vs,r1,f,b,fun i x u h1 h2=>(l i x u h1 h2).leX_cell h (b x (aC h1))⟩
 | loc d off=>show v=_; rw [show c'.ρ=c.ρ from h.ρ]; exact r
 | sl o sz xs=>exact (eD (by intro cs a; cases a)).2 (((eD (by intro cs a; cases a)).1 r).leX_cell h rfl)
 | _=>exact RD.mono h.m (show RD c.m _ v from r)
theorem dO (f) (t) (k):get (jC f t) k=(get t k).map f:=by rw [o9]; exact lw (fun (_:Nat) (v:AV)=>f v) t k
section
variable {Γ:cr} {c:dM} {bx:List (Nat×List AV)} {w:World}
theorem WI.freezeX (f:WI Γ c bx w) {k b:Nat} {cells:Array Value} {T:TypeId} (hx:c.x k=some (b,.cells cells T (0,0))) :
  let c':dM:={ c with m:=c.m.with fun a o=>if a=b then cells[o]? else c.m a o,x:=fun j=>if j=k then none else c.x j }
  WI Γ c' bx w/\c.leX k c':=by
 intro c';have p:=f.xo k b _ hx
 have hle:c.m.le c'.m:=⟨fun a o v hm=>by
  show (if _ then _ else _)=_;by_cases e:a=b
  ·rw [aV e];have:=f.sub.cell a o v hm;simpa [World.cell?,e,p.obj] using this
  grind,fun _ _ h=>h⟩
 have D:c.leX k c':=⟨hle,rfl,rfl,rfl,fun j hj=>⟨aY hj,rfl⟩⟩;refine ⟨⟨f.ext,⟨fun a o v hm=>?_,f.sub.map⟩,f.le0.trans hle,⟨fun a o v hm=>?_,f.new.map⟩,fun d cs h q=>?_,f.inj,fun j=>?_,fun j a o h=>?_⟩,D⟩
 ·simp only [c',d5.with] at hm;split at hm
  ·rename_i y; subst y; simpa [World.cell?,p.obj] using hm
  ·exact f.sub.cell a o v hm
 ·simp only [c',d5.with] at hm;split at hm
  ·rename_i y; exact .inr (by rw [y]; exact ⟨p.new,cells,T,p.obj⟩)
  ·exact f.new.cell a o v hm
 ·obtain ⟨g1,g2,g3,us,U,g4,g5,g6⟩:=f.box d cs h q;refine ⟨g1,fun o=>?_,g3,us,U,g4,g5,fun i x v t A=>(g6 i x v t A).leX_cell D (g3 x (aC t))⟩;show (if c.ρ d=b then _ else _)=_;rw [aY (p.box d cs h q)]; exact g2 o
 ·have u:=f.own j;refine ⟨fun g B=>?_,u.shape,u.box,u.apart⟩;obtain ⟨len,cap,U,l,t,A,F,H,G⟩:=u.blk g B;refine ⟨len,cap,U,l,t,A,F,fun o z=>?_,G⟩;show (if g=b then _ else _)=_;rw [aY (fun e=>by subst e; exact p.own j B)]; exact H o z
 ·simp only [c'] at h;split at h
  ·cases h
  ·rename_i hj;have n:=f.xo j a o h;refine ⟨n.new,n.obj,n.kept,fun i hi=>?_,n.map,n.box,n.own,fun E o' r=>?_⟩
   ·show (if a=b then _ else _)=_;rw [aY (fun e=>by subst e; exact hj (p.inj j _ h))]; exact n.mem i hi
   ·simp only [c'] at r;split at r
    ·cases r
    ·exact n.inj E o' r
theorem WI.newX (a:WI Γ c bx w) (k:Nat) (n:Nat×Nat) (o:Obj) (hk:te o=true) (t:uc o) :
  let c':dM:={ c with x:=fun j=>if j=k then some (w.heap.size,o) else c.x j,xn:=fun j=>if j=k then n else c.xn j }
  WI Γ c' bx (w.alloc o)/\c.leX k c'/\NC w (w.alloc o):=by
 intro c';have z:c.leX k c':=⟨.refl _,rfl,rfl,rfl,fun j hj=>⟨aY hj,aY hj⟩⟩
 obtain ⟨g1,_,g3⟩:=a.grow (m':=c.m) (w':=w.alloc o) ((abs _ w).alloc (ba _) _) (.alloc w t) (.refl _) ⟨fun b i v h=>by
  rw [lS _ _ _ (show (⟨b,i,none⟩:Addr).block<_ from a.lt_m h)]; exact a.sub.cell b i v h,fun b x h=>(gI _ _ _ (a.lt_map h)).trans (a.sub.map b x h)⟩ ⟨fun b i v h => .inl h,fun b x h => .inl h⟩
 have L:=a.ext.size;refine ⟨⟨g1.ext,g1.sub,g1.le0,g1.new,fun d cs h q=>?_,g1.inj,fun j=>⟨(g1.own j).blk,(g1.own j).shape,(g1.own j).box,(g1.own j).apart⟩,fun j b p h=>?_⟩,z,g3⟩
 ·obtain ⟨H,E,y,us,U,J,D,G⟩:=g1.box d cs h q;exact ⟨H,E,y,us,U,J,D,fun i x v A B=>(G i x v A B).leX_cell (c:=c) z (y x (aC A))⟩
 ·simp only [c'] at h;split at h
  ·rename_i hj;cases h;refine ⟨jQ L,fx _ _,hk,fun i _=>?_,?_,fun d cs h q e=>?_,fun r u=>?_,fun r o' f=>?_⟩
   ·show c.m w.heap.size i=none
    cases hm:c.m w.heap.size i with
    | none=>rfl
    | some v=>have:=a.lt_m hm; omega
   ·show c.m.maps w.heap.size=none
    cases hm:c.m.maps w.heap.size with
    | none=>rfl
    | some v=>have:=a.lt_map hm; omega
   ·have:=a.lt_box h q;grind
   ·have:=a.lt_own (k:=r) (g:=w.heap.size) u;omega
   ·simp only [c'] at f;split at f
    ·rename_i e; rw [e,hj]
    ·have:=a.lt_x f; omega
  ·rename_i hj;have l:=g1.xo j b p h;have F:=a.lt_x h;refine ⟨l.new,l.obj,l.kept,l.mem,l.map,l.box,l.own,fun r o' f=>?_⟩;simp only [c'] at f;split at f
   ·cases f; omega
   ·exact l.inj r o' f
theorem WI.storeX (l:WI Γ c bx w) {k b:Nat} {cells:Array Value} {T:TypeId} (hx:c.x k=some (b,.cells cells T (0,0))) (a:Array Value) (B:∀ o v,c.m b o=some v->a[o]?=some v) :
  let c':dM:={ c with x:=fun j=>if j=k then some (b,.cells a T (0,0)) else c.x j }
  WI Γ c' bx (w.setRow b a)/\c.leX k c'/\NC w (w.setRow b a):=by
 intro c';have f:=l.xo k b _ hx;have N:=l.ext.size;have M:=f.new;have H:c.leX k c':=⟨.refl _,rfl,rfl,rfl,fun j hj=>⟨aY hj,rfl⟩⟩
 refine ⟨⟨l.ext.trans ⟨rfl,rfl,rfl,by simp,fun q D=>jn _ _ _ _ (nH D M)⟩,⟨fun t o v hm=>?_,fun t x hm=>by
  have hm:=l.sub.map t x hm;have L:=f.obj;grind [setRow_other]⟩,l.le0,l.new.keep (fun _ h=>oY h _ _),fun d cs h p=>?_,l.inj,fun j=>?_,fun j t o h=>?_⟩,H,r9 f.obj _⟩
 ·by_cases G:t=b
  ·subst G;simp only [World.cell?,yo _ _ _ _ _ _ f.obj];simpa using B o v hm
  ·rw [Wt _ _ _ _ G]; exact l.sub.cell t o v hm
 ·obtain ⟨g1,g2,g3,us,U,g4,g5,g6⟩:=l.box d cs h p;refine ⟨g1,g2,g3,us,U,?_,g5,fun i x v y E=>(g6 i x v y E).leX_cell H (g3 x (aC y))⟩;rw [jn _ _ _ _ (f.box d cs h p)]; exact g4
 ·have z:=l.own j;refine ⟨fun g F=>?_,z.shape,z.box,z.apart⟩;obtain ⟨len,cap,U,n,y,E,J⟩:=z.blk g F;refine ⟨len,cap,U,n,y,?_,J⟩;rw [jn _ _ _ _ (fun e=>by subst e; exact f.own j F)]; exact E
 ·simp only [c'] at h;split at h
  ·rename_i hj;subst hj;cases h;refine ⟨f.new,yo _ _ _ _ _ _ f.obj,rfl,f.mem,f.map,f.box,f.own,fun A o' u=>?_⟩;simp only [c'] at u;split at u
   ·assumption
   ·exact f.inj A o' u
  ·rename_i hj;have r:=l.xo j t o h;have p:t≠b:=fun e=>by subst e; exact hj (f.inj j _ h)
   refine ⟨r.new,?_,r.kept,r.mem,r.map,r.box,r.own,fun A o' u=>?_⟩
   ·rw [jn _ _ _ _ p]; exact r.obj
   ·simp only [c'] at u;split at u
    ·grind
    ·exact r.inj A o' u
end
open Go
open Go.RowKit (Below)
section
variable {Γ:cr} (hΓ:Γ.OK) {T:eX} (hT:T.OK Γ.P) {s:St} {K:St->Prop} {o:Oper} {a:Act} {w:World}
 {next:Act->World->Prop} {Q:Exit->Act->World->Prop}
theorem s6 {k sz} {xs} (h:iH s k=some (sz,xs)):lo k=0/\∃ g,Pe g=true/\get s.t (xk k)=some (.me g k sz xs):=by
 unfold iH at h;split at h
 ·rename_i g k' c b f
  cases d:Pe g with
  | false=>grind
  | true=>
   cases e:Nat.beq k' k with
   | false=>grind
   | true=>
    cases i:Nat.beq (lo k) 0 with
    | false=>grind
    | true=>grind [Nat.eq_of_beq_eq_true]
 ·cases h
theorem oj {k sz} {xs} (h:iH s k=some (sz,xs)):lo k=0:=(s6 h).1
theorem Ol {c} {g} {k n} {xs} {v} (i:Pe g=true) (h:RX c g k n xs v):RX c .arr k n xs v:=by
 cases g with
 | arr=>exact h
 | row b cap=>
  obtain ⟨cells,T,r1,⟨d,f,_,e⟩,j⟩:=h;exact ⟨b,cells,T,r1,⟨d,by rw [<- f]; exact e⟩,j⟩
 | _=>cases i
theorem A6 {c} {k n b cap} {xs} {v} {p} (h:RX c .arr k n xs v) (d:c.x k=some (b,p)) (e:cap=(c.xn k).2) (hl:xs.length<=cap):RX c (.row b cap) k n xs v:=by
 obtain ⟨l,cells,T,r1,⟨f,i⟩,j⟩:=h;rw [d] at r1;simp only [aB,ew] at r1;obtain ⟨rfl,rfl⟩:=r1;exact ⟨cells,T,d,⟨f,e,hl,by rw [e]; exact i⟩,j⟩
theorem P8 {k sz} {xs} {K} (h:rowK s k sz xs K):∃ v,(v = .me .arr k sz xs\/∃ b cap,zB s k=some (b,cap)/\v = .me (.row b cap) k sz xs)/\K v:=by
 unfold rowK at h;grind
theorem Mt {k sz b cap} {xs} (h:iH s k=some (sz,xs)) (c:zB s k=some (b,cap)):get s.t (xk k)=some (.me (.row b cap) k sz xs):=by
 obtain ⟨_,g,_,he⟩:=s6 h;grind [zB]
theorem XOK.none {c} {bx} {k b} {p} (h:XOK Γ c bx w k b p) (hk:lo k=0) (i):c.m b i=none:=h.mem i am
theorem XOK.ag {c} {bx} {k b} {p} (h:XOK Γ c bx w k b p) (hk:lo k=0) {cells:Array Value} (i) (v) (hv:c.m b i=some v):cells[i]?=some v:=by
 rw [h.none hk i] at hv; cases hv
theorem rl {c} {k sz} {xs} (f:∀ d x,get s.t d=some x->RC c x (a.tmps.getD d Go.undef)) (h:iH s k=some (sz,xs)) :
  ∃ b cells T,c.x k=some (b,.cells cells T (0,0))/\(xs.length=(c.xn k).1/\(c.xn k).2*sz<=cells.size)/\xs.length*sz<=cells.size/\(∀ r∈xs,r.length=sz/\∀ y∈r,y.isCell=true) /\
   ∀ (i:Nat) (r:List AV) (j:Nat) (y:AV),xs[i]?=some r->r[j]?=some y->∃ u,cells[i*sz+j]?=some u/\RD c.m y u:=by
 obtain ⟨_,g,e,he⟩:=s6 h;exact Ol (v:=a.tmps.getD (xk k) Go.undef) e (f _ _ he)
theorem hX:∀ (l:List Operand) (s:St),kC s l K->ef Γ s a w->∃ s',K s'/\ef Γ s' a w
 | [],s,h,v=>⟨s,h,v⟩
 | x::r,s,h,v=>by
  unfold kC at h;split at h
  ·rename_i k n ys hx;split at h
   ·rename_i sz xs hc;rw [St.go_eq] at h;refine hX r _ h ?_;obtain ⟨⟨c,X,E⟩,h2,h3,Z⟩:=v;obtain ⟨b,cells,U,J,e2,e3,L,D⟩:=rl E hc;obtain ⟨g1,g2⟩:=X.freezeX J;refine ⟨⟨_,g1,fun d y hy=>?_⟩,h2,h3,Z⟩;rw [dO] at hy;obtain ⟨z,hz,rfl⟩:=aA.1 hy;have t:=E d z hz;have p:=t.leX g2
    have key:∀ n,RX c .sl k n [] (a.tmps.getD d Go.undef)->RD (c.m.with fun q o=>if q=b then cells[o]? else c.m q o) (.sl .no sz xs) (a.tmps.getD d Go.undef):=fun n hz=>by
     obtain ⟨q,e,G,cap,H,f2,f3,f4⟩:=hz;rw [J] at H;cases H;rw [f2];have hm:c.m.le (c.m.with fun q o=>if q=b then cells[o]? else c.m q o):=g2.m;refine .sl _ _ _ _ _ _ (by intro k hk; cases hk) (by intro hk; cases hk) am f4 (fun r t=>(L r t).1) (fun r t=>(L r t).2) b 0 (fun _=>rfl) (fun i j=>(cells[i*sz+j]?).getD Go.undef) (fun i r j y h1 h2=>?_) (fun i r j y h1 h2=>?_)
     ·obtain ⟨u,A,M⟩:=D i r j y h1 h2;show (if _ then _ else _)=_; rw [aV rfl,bS,A]; rfl
     ·obtain ⟨u,A,M⟩:=D i r j y h1 h2;rw [A]; exact M.mono hm
    cases z with
    | me g k' B N=>
     simp only [vY,AV.unme] at p ⊢
     cases F:Nat.beq k k' with
     | false=>rw [F] at p; exact p
     | true=>
      have hk:=ak F;subst hk
      cases g with
      | sl=>exact key B (by obtain ⟨q,e,G,cap,f⟩:=(show RX c .sl k B N _ from t); exact ⟨q,e,G,cap,f⟩)
      | _=>exact RD.junk _
    | _=>exact p
   ·exact h.elim
  ·exact hX r s h v
include hΓ in
theorem ot {c} (j:ef Γ s a w) (r:∀ d,o.dst=some d->d<Γ.nt) (q:WI Γ c s.b w) (m:∀ d x,get s.t d=some x->RC c x (a.tmps.getD d Go.undef)) (l:∀ c,o.op≠.defer c)
  {x} {v} (hx:RC c x v) (f:(execOp a.eval o).run Γ.P w = .ok (.value v) w) (h:fJ s o.dst x K) (p:dS Γ a o.dst w K next):o.wpIn Γ.F Γ.n Γ.P a w next Q:=by
 refine cX hΓ l f ?_;obtain ⟨t,b⟩:=s
 cases e:o.dst with
 | none=>
  rw [e] at h;exact p _ _ _ h (j.next (.refl w) q (d:=none) (v:=Go.undef) (by intro k hk; cases hk) m) (.refl w) (by rw [e]; exact ⟨Go.undef,rfl⟩)
 | some d=>
  rw [e] at h;have i:=r d e;exact p _ _ _ h (j.next (.refl w) q (d:=some d) (v:=v) (by grind) (eT m (by rw [j.size]; exact i) hx)) (.refl w) (gL e)
include hΓ hT in
theorem tX {t} {x y} {k len} {q} {i} (m:o.op = .indexAddr t x y) (r:ef Γ s a w) (u:∀ d,o.dst=some d->d<Γ.nt) (hx:∀ c,(∀ d x,get s.t d=some x->RC c x (a.tmps.getD d Go.undef))->RX c .sl k len [] (a.eval x)) (hy:ev s y = .int q i)
  (h:iT T s o.dst t k len i K) (A:dS Γ a o.dst w K next):o.wpIn Γ.F Γ.n Γ.P a w next Q:=by
 obtain ⟨c,D,l⟩:=r.ex;unfold iT at h;split at h
 ·exact h.elim
 rename_i B hi;split at h
 ·exact h.elim
 rename_i j hj;split at h
 ·exact h.elim
 rename_i sz xs L
 cases f:(Nat.beq B.kind 3&&Nat.beq j.size sz) with
 | false=>grind
 | true=>
  rw [f] at h;obtain ⟨z,h1,h⟩:=h;simp only [al] at f;have hu:=ee hT hi (ak f.1);have p:=ak f.2;obtain ⟨b,cells,U,cap,E,G,H,J⟩:=hx c l;have e:=cq l y;rw [hy] at e;refine ot hΓ r u D l (by grind) (x := .me (.ptr sz 0) k i.toNat []) (v := .pointer (some ⟨b,i.toNat*sz+0,none⟩)) ⟨b,cells,U,E,rfl⟩ ?_ h A;simp only [execOp,m,G,e.int,Instr.indexAt,asIntOf,aD,aL,aw,a7 hu];rw [aV ⟨z,by omega⟩];simp only [aD,eU hT hj,aw,aL,p,fu,bS,eb]
include hΓ hT in
theorem xu {t} {x y} {k len} {zs} {q} {i} (e:o.op = .indexAddr t x y) (j:ef Γ s a w) (f:∀ d,o.dst=some d->d<Γ.nt) (hx:ev s x = .me .sl k len zs) (hy:ev s y = .int q i)
  (h:iT T s o.dst t k len i K) (m:dS Γ a o.dst w K next):o.wpIn Γ.F Γ.n Γ.P a w next Q:=
 tX hΓ hT e j f (fun c l=>by have b:=cq l x; rw [hx] at b; exact b) hy h m
theorem IW {c} (e:∀ d x,get s.t d=some x->RC c x (a.tmps.getD d Go.undef)) {x} {v} (hx:ev s x = .lit v):a.eval x=v:=by
 have b:=cq e x;rw [hx] at b;generalize a.eval x=u at b;have b:RD c.m (.lit v) u:=b;cases b; rfl
include hΓ hT in
theorem tW {t} {x y} {k b len cap sz} {xs} {q} {i} (e:o.op = .indexAddr t x y) (l:ef Γ s a w) (j:∀ d,o.dst=some d->d<Γ.nt) (hx:ev s x = .lit (.slice (some ⟨b,0,none⟩) len cap)) (hk:get s.t (xk k)=some (.me (.row b cap) k sz xs)) (hl:xs.length=len) (hy:ev s y = .int q i)
  (h:iT T s o.dst t k len i K) (m:dS Γ a o.dst w K next):o.wpIn Γ.F Γ.n Γ.P a w next Q:=
 tX hΓ hT e l j (fun c f=>by
  obtain ⟨cells,U,p,⟨v,r,u,_⟩,_⟩:=(show RX c (.row b cap) k sz xs (a.tmps.getD (xk k) Go.undef) from f _ _ hk);exact ⟨b,cells,U,cap,p,IW f hx,⟨by omega,r⟩,by omega⟩) hy h m
include hΓ hT in
theorem xw {t:TypeId} {x:Operand} {f sz j k i:Nat} {A:List (List AV)} (r:o.op = .fieldAddr t x f) (B:ef Γ s a w) (G:∀ d,o.dst=some d->d<Γ.nt) (hx:ev s x = .me (.ptr sz j) k i A)
  (h:oS T s o.dst t f sz j k i K) (L:dS Γ a o.dst w K next):o.wpIn Γ.F Γ.n Γ.P a w next Q:=by
 obtain ⟨c,H,z⟩:=B.ex;unfold oS at h;split at h
 ·exact h.elim
 rename_i M hi
 cases hk:Nat.beq M.kind 1 with
 | false=>grind
 | true=>
  rw [hk] at h;simp only [aP] at h;obtain ⟨J,hu,y⟩:=oX hT hi (ak hk);split at h
  ·exact h.elim
  rename_i off ft p;rw [fp,y,aT] at p;obtain ⟨fd,q,e⟩:=aA.1 p;simp only [ew] at e;obtain ⟨rfl,rfl⟩:=e;have hfd':J[f]?=some fd:=by simpa using q
  split at h
  ·exact h.elim
  rename_i u hj
  cases l:Nat.beq u.size 0 with
  | true=>grind
  | false=>
   rw [l] at h;simp only [bq] at h;have m:=cq z x;rw [hx] at m;obtain ⟨b,cells,U,E,D⟩:=(show RX c (.ptr sz j) k i A (a.eval x) from m);refine ot hΓ B G H z (by grind) (x := .me (.ptr sz (j+fd.offset)) k i []) (v := .pointer (some ⟨b,i*sz+(j+fd.offset),none⟩)) ⟨b,cells,U,E,rfl⟩ ?_ h L;simp only [execOp,r,D,Instr.fieldAt,aD,a7 hu,aw,hfd',Instr.sureAddr,aL,kw hT hj l rfl,d3]
include hΓ hT in
theorem SZ {t:TypeId} {x:Operand} {sz j k i:Nat} {B:List (List AV)} (N:o.op = .load t x) (hI:ef Γ s a w) (hd:∀ d,o.dst=some d->d<Γ.nt) (hx:ev s x = .me (.ptr sz j) k i B)
  (h:Oz T s o.dst t sz j k i K) (hn:dS Γ a o.dst w K next):o.wpIn Γ.F Γ.n Γ.P a w next Q:=by
 obtain ⟨c,X,A⟩:=hI.ex;unfold Oz at h;split at h
 ·exact h.elim
 rename_i ti hi;split at h
 ·exact h.elim
 rename_i e xs hc
 cases D:Nat.beq e sz with
 | false=>grind
 | true=>
  rw [D] at h;have:=ak D;subst this;obtain ⟨r,q,h⟩:=h;split at h
  ·rename_i v hv;rw [AV.go_eq] at h;obtain ⟨b,cells,U,G,e2,e3,H,J⟩:=rl A hc;have Z:=X.xo k b _ G;have l:=cq A x;rw [hx] at l;obtain ⟨b',m,U',E,f2⟩:=(show RX c (.ptr e j) k i B (a.eval x) from l);rw [G] at E;cases E;have z:=(H r (aC q)).1;have f:(i+1)*e<=xs.length*e:=bg _ (aq.1 q).1;rw [dE,wh] at f
   have hA:∀ (p:Nat) (y:AV) (v:Value),(r.drop j)[p]?=some y->((cells.toList.drop (i*e+j)).take (e - j))[p]?=some v->fD c y v:=fun p y v g1 g2=>by
    rw [cB] at g1;rw [dj] at g2;split at g2
    ·rw [cB] at g2;obtain ⟨u,q1,q2⟩:=J i r _ y q g1;have:cells[i*e+(j+p)]?=some v:=by rw [<- d3]; simpa using g2
     grind [fD.of_RD]
    ·cases g2
   have hB:∀ (p:Nat) (v:Value),((cells.toList.drop (i*e+j)).take (e - j))[p]?=some v->w.cell? ⟨b,i*e+j+p,none⟩=some v:=fun p v g=>by
    rw [dj] at g;split at g
    ·rw [cB] at g;simp only [World.cell?,Z.obj];simpa using g
    ·cases g
   obtain ⟨u,L,M⟩:=jY (c:=c) (w:=w) hT hi (b:=b) (off:=i*e+j) (cells:=r.drop j) (vals:=(cells.toList.drop (i*e+j)).take (e - j)) (by simp [z]; omega)
    (fun y hy=>(H r (aC q)).2 y (gn hy)) hA hB hv
   grind [ot,execOp,Sem.run_bind,Instr.loadAt,Instr.sureAddr,Sem.run_pure,Result.andThen_ok]
  ·exact h.elim
end
open Go
open Go.RowKit (Below)
theorem fU {α:Type}:∀ (l:List α) (n:Nat) (v:α),(dB l n v).length=l.length
 | [],_,_=>rfl
 | _::_,0,_=>rfl
 | _::r,n+1,v=>by simp [dB,fU r n v]
theorem qE {α:Type}:∀ (ds l:List α) (off p:Nat),(setMany l off ds)[p]?=if off<=p/\p<off+ds.length/\p<l.length then ds[p - off]? else l[p]?
 | [],l,off,p=>by rw [aY (by simp; omega)]; rfl
 | d::ds,l,off,p=>by
  rw [setMany,qE ds,fU,ez];grind
theorem qD {α:Type}:∀ (ds l:List α) (off:Nat),(setMany l off ds).length=l.length
 | [],_,_=>rfl
 | _::ds,l,off=>by rw [setMany,qD ds,fU]
theorem jX {k:Nat} {g:Rh} (c:iE g=true):∀ {t:List (Nat×AV)},qe k t=true->∀ {d n:Nat} {xs:List (List AV)},get t d=some (.me g k n xs)->d=xk k
 | [],_,d,n,xs,h=>by simp [get] at h
 |(e,v)::r,b,d,n,xs,h=>by
  rw [bf] at h;split at h
  ·rename_i f;cases h;simp only [qe,Nat.beq_refl,jm,ey,c,gX,al] at b;rw [f]; exact ak b.1
  ·refine jX (t:=r) c ?_ h;unfold qe at b;grind
section
variable {Γ:cr} (hΓ:Γ.OK) {T:eX} (hT:T.OK Γ.P) {s:St} {K:St->Prop} {o:Oper} {a:Act} {w:World}
 {next:Act->World->Prop} {Q:Exit->Act->World->Prop}
include hΓ hT in
theorem HX {t} {x y} {sz j k i} {zs} (hop:o.op = .store t x y) (hI:ef Γ s a w) (hx:ev s x = .me (.ptr sz j) k i zs)
  (A:∀ g d n xs,iE g=true->get s.t d=some (.me g k n xs)->d=xk k) (h:yR T s o.dst t sz j k i (ev s y) K) (hn:dS Γ a o.dst w K next):o.wpIn Γ.F Γ.n Γ.P a w next Q:=by
 obtain ⟨c,hW,N⟩:=hI.ex;unfold yR at h;split at h
 ·rename_i ti cs E hi hcs;split at h
  ·exact h.elim
  rename_i f xs hc
  cases X:(Nat.beq f sz&&(Nat.beq cs.length ti.size&&(cs.all (fun c=>c.isCell)&&(Nat.ble (j+cs.length) sz&&Nat.blt 0 cs.length)))) with
  | false=>grind
  | true=>
   rw [X] at h;simp only [al,aN] at X;obtain ⟨b1,b2,b3,b4,b5⟩:=X;have:=ak b1;subst this;have hle:=ah b4;have hpos:1<=cs.length:=ah b5;obtain ⟨r,hr,h⟩:=h;obtain ⟨b,cells,U,L,e2,e3,e4,e5⟩:=rl N hc;have hq:=hW.xo k b _ L;have hrx:=cq N x;rw [hx] at hrx;obtain ⟨b',cells',U',f1,f2⟩:=(show RX c (.ptr f j) k i zs (a.eval x) from hrx);rw [L] at f1;cases f1;have hil:=(aq.1 hr).1;have hrl:=(e4 r (aC hr)).1;have Z:(i+1)*f<=xs.length*f:=bg _ hil;rw [dE,wh] at Z;obtain ⟨g1,g2⟩:=(cq N y).cells0 hcs
   have hone:∀ v∈(a.eval y).cells.toList,v.oneCell'=true:=by
    intro v hv;obtain ⟨n,hn',hv'⟩:=cI hv;have D:n<cs.length:=by rw [g1]; simpa using hn'
    have h1:(a.eval y).cells[n]?=some v:=by
     rw [<- hv',<- cU]; exact ai hn'
    exact ((g2 n _ v (ai D) h1).one (b3 _ (bX D))).1
   have hnl:(a.eval y).cells.toList.length=cs.length:=by simp [g1]
   generalize J:(a.eval y).cells.toList=news at *;have hst:=oM Γ.P b (i*f+j) U news 0 cells w hq.obj am hone;simp only [eb] at hst;obtain ⟨W1,W2,W3⟩:=hW.storeX L (cells.toList.take (i*f+j)++news++cells.toList.drop (i*f+j+news.length)).toArray (hq.ag (oj hc));have hrow:=fun n=>yU cells.toList news (i*f+j) n (by grind);refine mM hΓ (by grind) (w':=w.setRow b (cells.toList.take (i*f+j)++news++cells.toList.drop (i*f+j+news.length)).toArray) ?_ ?_
   ·have hsz:(a.eval y).cells.size=ti.size:=by rw [<- g1]; exact ak b2
    simp only [execOp,hop,f2,Instr.storeAt,Instr.sureAddr,aD,aL,aw,storeVar,eU hT hi,hsz,Bg,iO,cv,J,hst]
   ·rw [E];obtain ⟨vv,hvv,hK⟩:=P8 h;refine hn _ _ _ hK (hI.next W3 W1 (d:=none) (v:=Go.undef) (by intro k hk; cases hk) (fun d z hz=>?_)) W3 (lC E);rw [bf] at hz;split at hz
    ·rename_i hd;cases hz
     have B:=(show RX { c with x:=fun q=>if q=k then some (b,Obj.cells (cells.toList.take (i*f+j)++news++cells.toList.drop (i*f+j+news.length)).toArray U) else c.x q } .arr k f (dB xs i (uj r j (cs.map AV.pub1))) (a.tmps.getD d Go.undef) from by
      refine ⟨b,_,U,aV rfl,⟨by rw [fU]; exact e2.1,by
       grind⟩,?_,fun r' hr'=>?_,fun i' r' M z' h1 h2=>?_⟩
      ·grind [fU,List.size_toArray,List.length_append,List.length_take,List.length_drop,Array.length_toList]
      ·obtain ⟨p,hp⟩:=ct hr';rw [ez] at hp;split at hp
       ·cases hp;rw [lr];refine ⟨by rw [qD]; exact hrl,fun z hz=>?_⟩;rcases nE _ _ _ _ hz with h | h
        ·obtain ⟨u,hu,rfl⟩:=bp.1 h;exact fQ (b3 u hu)
        grind
       grind
      ·have hil':i'<xs.length:=by have:=(aq.1 h1).1; rwa [fU] at this
       rw [hrow];rw [ez] at h1;split at h1
       ·rename_i G;obtain ⟨rfl,_⟩:=G;cases h1;rw [lr,qE,ay] at h2;split at h2
        ·rename_i hc2;rw [aV ⟨by omega,by omega⟩,show i*f+M - (i*f+j)=M - j by omega];rw [aT] at h2;obtain ⟨z0,hz0,rfl⟩:=aA.1 h2;have D:M - j<news.length:=by omega
         refine ⟨news[M - j],ai D,?_⟩;refine (g2 _ z0 _ hz0 ?_).pub;grind
        grind
       ·rename_i G;have hne:i≠i':=fun e=>G ⟨e,hil'⟩;have hj':M<f:=by rw [<- (e4 r' (aC h1)).1]; exact (aq.1 h2).1
        rw [aY ?_]
        ·grind
        ·intro hc2;rcases Nat.lt_or_gt_of_ne hne with g | g
         ·have:(i+1)*f<=i'*f:=bg _ g;grind
         ·have:(i'+1)*f<=i*f:=bg _ g;grind)
     rcases hvv with rfl | ⟨b0,cap0,hbc,rfl⟩
     ·exact B
     ·have h0:=Mt hc hbc;obtain ⟨cells0,U0,q1,⟨q2,q3,q4,_⟩,_⟩:=(show RX c (.row b0 cap0) k f xs (a.tmps.getD (xk k) Go.undef) from N _ _ h0);rw [L] at q1;cases q1;exact A6 B (aV rfl) q3 (by rw [fU]; exact q4)
    ·have hz':=N d z hz
     -- heads and pointers under the same name stay
     cases z with
     | me g k' n' m=>
      by_cases hk:k'=k
      ·subst hk
       cases g with
       | sl=>
        obtain ⟨p1,p2,p3,p4,l⟩:=(show RX c .sl k' n' m _ from hz');exact ⟨p1,_,U,p4,by rw [show c.x k'=_ from L] at l; simp only [aB,ew] at l; rw [<- l.1.1]; exact aV rfl,l.2⟩
       | ptr H j2=>
        obtain ⟨p1,p2,p3,l⟩:=(show RX c (.ptr H j2) k' n' m _ from hz');exact ⟨p1,_,U,by rw [show c.x k'=_ from L] at l; simp only [aB,ew] at l; rw [<- l.1.1]; exact aV rfl,l.2⟩
       | arr=>exact absurd (A _ _ _ _ rfl hz) a8
       | row _ _=>exact absurd (A _ _ _ _ rfl hz) a8
       | box=>exact absurd (A _ _ _ _ rfl hz) a8
       | mp=>
        obtain ⟨p1,p2,p3,l,_⟩:=(show RX c .mp k' n' m _ from hz');grind
       | ents=>
        obtain ⟨p2,p3,l,_⟩:=(show RX c .ents k' n' m Go.undef from hz');grind
       | sub H l2=>
        obtain ⟨p1,p2,p3,p4,p6,l,p7⟩:=(show RX c (.sub H l2) k' n' m _ from hz');exact ⟨p1,_,U,p4,p6,by rw [show c.x k'=_ from L] at l; simp only [aB,ew] at l; rw [<- l.1]; exact aV rfl,p7⟩
      ·have:=hz'.leX W2;simp only [AV.unme,show Nat.beq k k'=false from by cases X:Nat.beq k k' with | false=>rfl | true=>exact absurd (ak X).symm hk] at this;exact this
     | _=>exact hz'.leX W2
 ·exact h.elim
include hΓ hT in
theorem WE {t} {x y} {sz j k i} {zs} (b:o.op = .store t x y) (c:ef Γ s a w) (hx:ev s x = .me (.ptr sz j) k i zs)
  (h:Mf T s o.dst t sz j k i (ev s y) K) (e:dS Γ a o.dst w K next):o.wpIn Γ.F Γ.n Γ.P a w next Q:=by
 unfold Mf at h
 cases d:qe k s.t with
 | false=>grind
 | true=>grind [HX,jX]
end
open Go
open Go.RowKit (Below)
section
variable {Γ:cr} (hΓ:Γ.OK) {T:eX} (hT:T.OK Γ.P) {s:St} {K:St->Prop} {o:Oper} {a:Act} {w:World}
 {next:Act->World->Prop} {Q:Exit->Act->World->Prop}
include hT in
theorem Q7 {c} {bx} (hW:WI Γ c bx w) {t} {i j} {o'} {sz sz'} {b} {u v} {zs} (hi:get T t=some i) (M:i.kind=3) (hj:get T i.elem=some j)
  (hz:j.zero.cells?=some zs) (H:zs.length=j.size) (hpos:0<j.size) (hx:fD c (.sl .full sz []) u) (hy:fD c (.sl o' sz' b) v) (X:j.size=sz'\/b=[]) (A:gR b.length j.bytes)
  (hmax:b.length<=4611686018427387904) (N:0<b.length) (ty) :
  ∃ cap cells,(Builtin.append_ #[t,t] ty #[u,v]).run Γ.P w = .ok (.slice (some ⟨w.heap.size,0,none⟩) b.length cap) (w.drew.alloc (.cells cells i.elem))/\b.length<=cap/\cap*j.size<=cells.size /\
   (∀ r∈b,r.length=j.size/\∀ y∈r,y.isCell=true)/\∀ (p:Nat) (r:List AV) (q:Nat) (y:AV),b[p]?=some r->r[q]?=some y->∃ u,cells[p*j.size+q]?=some u/\RD c.m y u:=by
 have hu:=ee hT hi M;obtain ⟨q,z,Z,q2,q3,q4,q5,_⟩:=jq (c:=c) w hT hj hz H;have hy':RD c.m (.sl .no sz' b) v:=hy.sl_no;obtain ⟨L,n,f,rfl,_,_⟩:=hy'.elem;obtain ⟨k2,k1,k2',k3,k4,k5,k6,k7,k8⟩:=hy'.flat;subst k4
 have J:j.size=sz':=by
  rcases X with h | h
  ·exact h
  ·subst h; simp at N
 subst J;have hx':RD c.m (.sl .full sz []) u:=hx
 have U:∃ base,u = .slice base 0 0:=by
  generalize hav:u=av at hx'
  cases hx' with
  | sl _ _ _ base len cap ho hf hl hc=>
   grind
 obtain ⟨base,rfl⟩:=U;obtain ⟨E,d,rfl,G⟩:=k8 N;have l:∀ p v,k2[p]?=some v->w.cell? ((⟨E,d,none⟩:Addr).add p)=some v:=fun p v h=>by rw [fu]; exact hW.sub.cell _ _ _ (G p v h)
 have D:b.length*j.bytes<=140737488355328:=by unfold gR at A; omega
 have x:=wg (need:=b.length) (old:=0) (bytes:=q.bytes) am (by rw [q3]; exact D);have F:=L8 w b.length 0 i.elem;obtain ⟨cells,e⟩:∃ cells,cells=k2.toArray++Builtin.zeroCells z.cells (grownCap w b.length 0 i.elem - b.length):=⟨_,rfl⟩
 have B:(Builtin.append_ #[t,t] ty #[.slice base 0 0,.slice (some ⟨E,d,none⟩) b.length f]).run Γ.P w = .ok (.slice (some ⟨w.heap.size,0,none⟩) b.length (grownCap w b.length 0 i.elem)) (w.drew.alloc (.cells cells i.elem)):=by
  cases base with
  | none=>
   have:=L6 (P:=Γ.P) w t ty i.elem q z hu Z q4 ⟨E,d,none⟩ b.length f k2 (by rw [k1,q2]) l N am (by rw [q3]; omega);rw [this,e]
  | some a0=>
   have:=sB (P:=Γ.P) w t ty i.elem q z hu Z q4 a0 0 0 [] dc dc ⟨E,d,none⟩ b.length f k2 (by rw [k1,q2]) l am am (by simpa using x);grind
 refine ⟨_,cells,B,F,?_,fun r hr=>⟨k6 r hr,k7 r hr⟩,fun p r q y h1 h2=>?_⟩
 ·rw [e]; simp only [og,iQ,v8,q5,k1]; rw [<- dE]; exact bg _ am
 grind
include hΓ hT in
theorem Oy {args} {B} {x y} {sz} (G:o.op = .call { callee := .builtin .append,args:=args,argTypes:=B }) (ha:args.toList=[x,y]) (M:ef Γ s a w) (hd:∀ d,o.dst=some d->d<Γ.nt)
  (hx:ev s x = .sl .full sz []) (h:Dm T s o.dst B.toList (ev s y) K) (hn:dS Γ a o.dst w K next):o.wpIn Γ.F Γ.n Γ.P a w next Q:=by
 obtain ⟨c,hW,D⟩:=M.ex;unfold Dm at h;split at h
 ·rename_i d t t' b r;have q:=hd d b;split at h
  ·exact h.elim
  rename_i i hi;split at h
  ·exact h.elim
  rename_i j hj;split at h
  ·rename_i ow sz' ys L
   cases E:(Nat.beq i.kind 3&&(Nat.beq t t'&&(n0 j&&Nat.blt 0 j.size))) with
   | false=>grind
   | true=>
    rw [E] at h;simp only [al] at E;obtain ⟨b1,b2,A,b4⟩:=E;have N:=ak b2;subst N;obtain ⟨⟨h0,f,m,h⟩,H⟩:=mG h;have l:0<j.size:=ah b4;unfold n0 at A;split at A
    ·rename_i zs hz;have J:=ak A;have u:=cq D x;rw [hx] at u;have p:=cq D y;rw [L] at p;obtain ⟨cap,cells,r1,r2,Z,r4,r5⟩:=Q7 (o':=ow) hT hW hi (ak b1) hj hz J l ((eD (by intro cs X; cases X)).1 u) ((eD (by intro cs X; cases X)).1 p) H f m h0 o.type;obtain ⟨args⟩:=args;obtain ⟨B⟩:=B;simp only at ha r;subst ha;subst r;obtain ⟨W1,W2,W3⟩:=hW.drew.newX d (ys.length,cap) (.cells cells i.elem (0,0)) rfl (el _ _);refine cX hΓ (by grind) (v := .slice (some ⟨w.heap.size,0,none⟩) ys.length cap) (w':=w.drew.alloc (.cells cells i.elem)) ?_ ?_
     ·simp only [execOp,G,aD,ec,aw,invoke,builtin,eE,cp,eZ,r1,aL]
     ·have hN:NC w (w.drew.alloc (.cells cells i.elem (0,0))):=NC.trans (show NC w w.drew from ⟨ba _,fun _ _ h _=>h,.drew _,fun _ h=>h⟩) W3;rw [b];refine hn _ _ _ h (M.next hN W1 (d:=some d) (by grind) (eT (fun e z hz=>?_) (by rw [M.size]; exact q) ?_)) hN (gL b)
      ·rw [bf] at hz;split at hz
       ·cases hz;exact ⟨_,cells,i.elem,aV rfl,⟨by simp,by simpa using Z⟩,bH (bg _ r2) Z,r4,r5⟩
       ·rw [dO] at hz;obtain ⟨z',U,rfl⟩:=aA.1 hz;exact (D e z' U).leX W2
      ·exact ⟨_,cells,i.elem,cap,aV rfl,by rw [nz],⟨by simp,by simp⟩,r2⟩
    ·cases A
  ·exact h.elim
 ·exact h.elim
include hΓ hT in
theorem S6 {args} {e} {x} {t} {n} {i} (f:o.op = .call { callee := .builtin .len,args:=args,argTypes:=e }) (l:args.toList=[x]) (b:e.toList=[t]) (j:ef Γ s a w)
  (m:∀ d,o.dst=some d->d<Γ.nt) (hx:∃ base cap,a.eval x = .slice base n cap) (hi:get T t=some i) (hk:i.kind=3) (h:fJ s o.dst (.int .i64 n) K) (q:dS Γ a o.dst w K next):o.wpIn Γ.F Γ.n Γ.P a w next Q:=by
 obtain ⟨c,r,p⟩:=j.ex;obtain ⟨base,cap,u⟩:=hx;obtain ⟨args⟩:=args;obtain ⟨e⟩:=e;simp only at l b;subst l;subst b;have hu:=ee hT hi hk;refine ot hΓ j m r p (by grind) (x := .int .i64 n) (v := .int .i64 n) (eC _ _) ?_ h q;have:(Builtin.len_ #[t] o.type #[a.eval x]).run Γ.P w = .ok (.int .i64 n) w:=by rw [u]; simp [Builtin.len_,a7 hu,goInt]
 simp only [execOp,f,aD,ec,aw,invoke,builtin,eE,cp,eZ,this,aL]
include hΓ hT in
theorem Yr {args} {ts} {x} {t} {k n} {zs} {i} (f:o.op = .call { callee := .builtin .len,args:=args,argTypes:=ts }) (r:args.toList=[x]) (j:ts.toList=[t]) (l:ef Γ s a w)
  (m:∀ d,o.dst=some d->d<Γ.nt) (hx:ev s x = .me .sl k n zs) (hi:get T t=some i) (hk:i.kind=3) (h:fJ s o.dst (.int .i64 n) K) (q:dS Γ a o.dst w K next):o.wpIn Γ.F Γ.n Γ.P a w next Q:=by
 obtain ⟨c,v,p⟩:=l.ex;have e:=cq p x;rw [hx] at e;obtain ⟨b,cells,U,cap,y,u,z,A⟩:=(show RX c .sl k n zs (a.eval x) from e);exact S6 hΓ hT f r j l m ⟨_,_,u⟩ hi hk h q
include hΓ hT in
theorem S0 {args} {ts} {x} {t} {n cap} {base} {i} (e:o.op = .call { callee := .builtin .len,args:=args,argTypes:=ts }) (l:args.toList=[x]) (b:ts.toList=[t]) (f:ef Γ s a w)
  (j:∀ d,o.dst=some d->d<Γ.nt) (hx:ev s x = .lit (.slice base n cap)) (hi:get T t=some i) (hk:i.kind=3) (h:fJ s o.dst (.int .i64 n) K) (p:dS Γ a o.dst w K next):o.wpIn Γ.F Γ.n Γ.P a w next Q:=by
 obtain ⟨c,q,m⟩:=f.ex;exact S6 hΓ hT e l b f j ⟨_,_,IW m hx⟩ hi hk h p
end
open Go
open Go.RowKit (Below)
section
variable {Γ:cr} {c:dM} {bx:List (Nat×List AV)} {w:World}
theorem WI.putX (n:WI Γ c bx w) {k b:Nat} {es:Array MapEntry} {clock:Nat} (hx:c.x k=some (b,.map es clock)) (y:Obj) (G:te y=true) (J:uc y) :
  let c':dM:={ c with x:=fun j=>if j=k then some (b,y) else c.x j }
  WI Γ c' bx (w.putObj b y)/\c.leX k c'/\NC w (w.putObj b y):=by
 intro c';have l:=n.xo k b _ hx;have X:=n.ext.size;have Q:=l.new;have E:=n.lt_x hx;have N:c.leX k c':=⟨.refl _,rfl,rfl,rfl,fun j hj=>⟨aY hj,rfl⟩⟩;have u:∀ f,f≠b->(w.putObj b y).heap[f]?=w.heap[f]?:=fun f h=>dg h;refine ⟨⟨n.ext.trans ⟨rfl,rfl,rfl,by simp [World.putObj],fun q H=>u q (nH H Q)⟩,⟨fun f o v hm=>?_,fun f x hm=>?_⟩,n.le0,n.new.keep (fun _ h=>oZ h l.obj (fun _ _ h=>nomatch h) _),fun d cs h a=>?_,n.inj,fun j=>?_,fun j f o h=>?_⟩,N,⟨by simp [World.putObj],fun f o F z=>?_,.putObj w b J,fun _ h=>oZ h l.obj (fun _ _ h=>nomatch h) _⟩⟩
 ·have a:f≠b:=by
   rintro rfl;have:=n.sub.cell f o v hm;simp [World.cell?,l.obj] at this
  have h1:=n.sub.cell f o v hm;grind [World.cell?]
 ·have a:f≠b:=by
   rintro rfl;have:=l.map;rw [show c.m.maps f=some x from hm] at this; cases this
  rw [u f a]; exact n.sub.map f x hm
 ·obtain ⟨g1,g2,g3,us,U,g4,g5,g6⟩:=n.box d cs h a;refine ⟨g1,g2,g3,us,U,?_,g5,fun i x v A L=>(g6 i x v A L).leX_cell N (g3 x (aC A))⟩;rw [u _ (l.box d cs h a)]; exact g4
 ·have B:=n.own j;refine ⟨fun g M=>?_,B.shape,B.box,B.apart⟩;obtain ⟨len,cap,U,p,A,L,P⟩:=B.blk g M;refine ⟨len,cap,U,p,A,?_,P⟩;rw [u _ (fun e=>by subst e; exact l.own j M)]; exact L
 ·simp only [c'] at h;split at h
  ·rename_i hj;subst hj;cases h;refine ⟨l.new,oN E,G,l.mem,l.map,l.box,l.own,fun D o' t=>?_⟩;simp only [c'] at t;split at t
   ·assumption
   ·exact l.inj D o' t
  ·rename_i hj;have r:=n.xo j f o h;have a:f≠b:=fun e=>by subst e; exact hj (l.inj j _ h)
   refine ⟨r.new,?_,r.kept,r.mem,r.map,r.box,r.own,fun D o' t=>?_⟩
   ·rw [u _ a]; exact r.obj
   ·simp only [c'] at t;split at t
    ·grind
    ·exact r.inj D o' t
 ·have a:f≠b:=by
   rintro rfl;rw [l.obj] at F;cases F;rw [l.kept] at z; cases z
  rw [u _ a]; exact F
theorem WI.freezeMap (a:WI Γ c bx w) {k b:Nat} {es:Array MapEntry} {clock:Nat} (hx:c.x k=some (b,.map es clock)) :
  let c':dM:={ c with m:=⟨c.m.cells,fun f=>if f=b then some (es,clock) else c.m.maps f⟩,x:=fun j=>if j=k then none else c.x j }
  WI Γ c' bx w/\c.leX k c':=by
 intro c';have p:=a.xo k b _ hx
 have hle:c.m.le c'.m:=⟨fun _ _ _ h=>h,fun f x hm=>by
  show (if _ then _ else _)=_;rw [aY (fun e=>by subst e; rw [p.map] at hm; cases hm)]; exact hm⟩
 have t:c.leX k c':=⟨hle,rfl,rfl,rfl,fun j hj=>⟨aY hj,rfl⟩⟩;refine ⟨⟨a.ext,⟨a.sub.cell,fun f x hm=>?_⟩,a.le0.trans hle,⟨a.new.cell,fun f x hm=>?_⟩,fun d cs h q=>?_,a.inj,fun j=>⟨(a.own j).blk,(a.own j).shape,(a.own j).box,(a.own j).apart⟩,fun j f o h=>?_⟩,t⟩
 ·simp only [c'] at hm;split at hm
  ·rename_i r; subst r; cases hm; exact p.obj
  ·exact a.sub.map f x hm
 ·simp only [c'] at hm;split at hm
  ·rename_i r; exact .inr (by rw [r]; exact p.new)
  ·exact a.new.map f x hm
 ·obtain ⟨g1,g2,g3,us,U,g4,g5,g6⟩:=a.box d cs h q;exact ⟨g1,g2,g3,us,U,g4,g5,fun i x v u z=>(g6 i x v u z).leX_cell t (g3 x (aC u))⟩
 ·simp only [c'] at h;split at h
  ·cases h
  ·rename_i hj;have l:=a.xo j f o h;refine ⟨l.new,l.obj,l.kept,l.mem,?_,l.box,l.own,fun y o' n=>?_⟩
   ·show (if _ then _ else _)=_;rw [aY (fun e=>by subst e; exact hj (p.inj j o h))]; exact l.map
   ·simp only [c'] at n;split at n
    ·cases n
    ·exact l.inj y o' n
theorem RX.mapv {k n} {rows} {u} (h2:RX c .ents k n rows u) {m'} (hle:c.m.le m') (hm:∀ es clock,c.x k=some (n,.map es clock)->m'.maps n=some (es,clock)):RD m' (.mapv rows) (.map (some n)):=by
 obtain ⟨es,clock,b,d,h,f,a,j⟩:=h2;exact .mapv rows n es clock (hm es clock b) d h f (fun i x e y g1 g2 g3=>(a i x e y g1 g2 g3).mono hle) (fun i x e y g1 g2 g3=>(j i x e y g1 g2 g3).mono hle)
theorem WI.newMap (a:WI Γ c bx w) (k:Nat) :
  let c':dM:={ c with x:=fun j=>if j=k then some (w.heap.size,.map #[] 0) else c.x j,xn:=fun j=>if j=k then (0,0) else c.xn j }
  WI Γ c' bx (w.alloc (.map #[] 0))/\c.leX k c'/\NC w (w.alloc (.map #[] 0))/\∀ u,RX c' .ents k w.heap.size [] u:=by
 intro c';obtain ⟨h1,h2,b⟩:=a.newX k (0,0) (.map #[] 0) rfl (fun _ _ _ h=>nomatch h);refine ⟨h1,h2,b,fun u=>⟨#[],0,aV rfl,⟨by simp,by simp,by simp⟩,rfl,by simp,by simp,by simp⟩⟩
end
open Go
open Go.RowKit (Below)
theorem wy {l} {i:Nat} {x} (h:(j8 l)[i]?=some x):∃ p,l[i]?=some p/\x=[keyA p.1,p.2]:=by
 grind [j8,Option.map_eq_some_iff]
theorem RD.int_eq {m:d5} {k:IntKind} {n:Int}:∀ {v:Value},RD m (.int k n) v->v = .int k n
 | _,.int _ _=>rfl
theorem RD.keyA {m} {k} {v} (h:RD m (Go.AI.keyA k) v):v=eh k:=by
 unfold Go.AI.keyA at h
 cases h with
 | agg _ vs hl c b=>
  unfold eh
  congr 1
  apply tT;apply wl;intro i;simp only [ay] at hl;simp only [aT];by_cases hi:i<k.length
  ·have h1:(k.map (AV.int .i64))[i]?=some (.int .i64 k[i]):=by simp [hi]
   have hv:vs[i]?=some (vs[i]'(by omega)):=aE _;grind [int_eq,List.getElem?_eq_getElem]
  ·rw [cU,oi am,fW am]; rfl
theorem wA {sk} {l} {i:Nat} {x} (h:(gp sk l)[i]?=some x):∃ p,l[i]?=some p/\x=[keyE sk p.1,p.2]:=by
 cases sk with
 | true=>exact wy h
 | false=>
  simp only [gp,bq,Iu,aT,aA] at h;obtain ⟨p,h1,h2⟩:=h;exact ⟨p,h1,h2.symm⟩
theorem wz (sk) (l):(gp sk l).length=l.length:=by cases sk <;> simp [gp,j8,Iu]
theorem Iv {sk} {l} {i:Nat} {p} (h:l[i]?=some p):(gp sk l)[i]?=some [keyE sk p.1,p.2]:=by cases sk <;> simp [gp,j8,Iu,keyE,h]
theorem RD.keyE {m} {sk} {n} (b:sk=false->n=1) {k} (hk:k.length=n) {v} (h:RD m (Go.AI.keyE sk k) v):v=sg sk k:=by
 cases sk with
 | true=>exact RD.keyA h
 | false=>
  obtain ⟨x,rfl⟩:=mo (x:=k) (by rw [hk,b rfl]);exact RD.int_eq h
theorem Om (m) {sk} {n} (d:sk=false->n=1) {k} (hk:k.length=n):RD m (Go.AI.keyE sk k) (sg sk k):=by
 cases sk with
 | false=>
  obtain ⟨x,rfl⟩:=mo (x:=k) (by rw [hk,d rfl]);exact RD.int _ _
 | true=>
  refine .agg _ _ dc (fun x hx=>?_) (fun i x u h1 h2=>?_)
  ·obtain ⟨n,_,rfl⟩:=bp.1 hx; rfl
  ·simp only [aT,aA,fV] at h1 h2;obtain ⟨n,c,rfl⟩:=h1;obtain ⟨e,b,rfl⟩:=h2;rw [c] at b; cases b;exact .int _ _
theorem RC.keyE_RD {c} {sk} {n} (e:sk=false->n=1) {k} (hk:k.length=n) {v} (h:RC c (Go.AI.keyE sk k) v):RD c.m (Go.AI.keyE sk k) v:=by
 cases sk with
 | false=>
  obtain ⟨x,rfl⟩:=mo (x:=k) (by rw [hk,e rfl]);exact h
 | true=>
  obtain ⟨vs,r1,f,b,j⟩:=(show RC c (.agg (k.map (AV.int .i64))) v from h);rw [r1];refine .agg _ vs f b fun i x u h1 h2=>?_;have d:=j i x u h1 h2;simp only [aT,aA] at h1;obtain ⟨n,_,rfl⟩:=h1;exact d
theorem Wd {c} {k b} {sk} {n} (y:sk=false->n=1) {l} (f:∀ p∈l,p.1.length=n) {u} (h:RX c .ents k b (gp sk l) u) :
  ∃ es clock,c.x k=some (b,.map es clock)/\ll es clock/\l.length=es.size/\∀ (j:Nat) (e:MapEntry),es[j]?=some e->∃ p,l[j]?=some p/\e.key=sg sk p.1/\RD c.m p.2 e.val:=by
 obtain ⟨es,clock,z,r,q,A,v,t⟩:=h;have d:l.length=es.size:=by rw [wz] at q; exact q
 refine ⟨es,clock,z,r,d,fun j e he=>?_⟩;have hj:j<l.length:=by rw [d]; exact (aX.1 he).1
 have i:(gp sk l)[j]?=some [Go.AI.keyE sk l[j].1,l[j].2]:=Iv (ai hj);exact ⟨l[j],ai hj,(v j _ e _ i he rfl).keyE y (f _ (bX hj)),t j _ e _ i he rfl⟩
theorem Cp {k:List Int} {v:AV}:∀ {l:List (List Int×AV)},(∀ p∈l,p.1≠k)->iM k v l=l++[(k,v)]
 | [],_=>rfl
 |(k',c)::r,h=>by
  rw [iM,aY (h (k',c) aW),Cp fun p b=>h p (aS _ b)]; rfl
theorem H7 {k:List Int} {v:AV}:∀ {l:List (List Int×AV)} {p:List Int×AV},p∈iM k v l->p=(k,v)\/p∈l
 | [],p,h => .inl (by simpa [iM] using h)
 |(k',b)::r,p,h=>by
  simp only [iM] at h;split at h
  ·rcases bC.1 h with h | h
   ·exact .inl h
   ·exact .inr (aS _ h)
  ·rcases bC.1 h with h | h
   ·exact .inr (h ▸ aW)
   ·exact (H7 h).imp id (aS _)
theorem Co {k:List Int} {v:AV}:∀ {l:List (List Int×AV)} {j:Nat} {p:List Int×AV},l[j]?=some p->p.1=k->(∀ (i c:Nat) (q d:List Int×AV),l[i]?=some q->l[c]?=some d->q.1=d.1->i=c)->iM k v l=l.set j (k,v)
 | [],j,p,h,_,_=>by simp at h
 |(k',m)::r,0,p,h,b,_=>by
  simp only [bD,aB] at h;subst h;rw [iM,aV b]; rfl
 |(k',m)::r,j+1,p,h,b,hu=>by
  simp only [fk] at h
  have f:k'≠k:=fun e=>by
   have:=hu 0 (j+1) (k',m) p rfl h (by rw [e,b]);omega
  rw [iM,aY f,Co h b fun i c q d h1 h2 e=>by
   have:=hu (i+1) (c+1) q d (by simpa using h1) (by simpa using h2) e;omega]
  rfl
section
variable {Γ:cr} (hΓ:Γ.OK) {T:eX} (hT:T.OK Γ.P) {s:St} {o:Oper} {a:Act} {w:World}
 {next:Act->World->Prop} {Q:Exit->Act->World->Prop}
include hΓ in
theorem PU {K} {t} {d} (j:o.op = .makeMap t none) (l:ef Γ s a w) (q:∀ d,o.dst=some d->d<Γ.nt) (f:o.dst=some d)
  (h:∀ b,K ⟨(d,.lit (.map (some b)))::(xk d,.me .ents d b [])::jC (AV.unme d) s.t,s.b⟩) (y:dS Γ a o.dst w K next):o.wpIn Γ.F Γ.n Γ.P a w next Q:=by
 obtain ⟨c,B,u⟩:=l.ex;have i:=q d f;obtain ⟨E,A,p,r⟩:=B.newMap d;refine cX hΓ (by rw [j]; intro c D; cases D) (v := .map (some w.heap.size)) (w':=w.alloc (.map #[] 0)) ?_ ?_
 ·simp only [execOp,j,Instr.makeMap,aD,Bh,wd,aw,aL];rfl
 ·rw [f];refine y _ _ _ (h w.heap.size) (l.next p E (d:=some d) (by intro k hk; cases hk; exact i) (eT (fun e z hz=>?_) (by rw [l.size]; exact i) (RD.lit _ rfl rfl))) p (gL f);rw [bf] at hz;split at hz
  ·cases hz; exact r Go.undef
  ·rw [dO] at hz;obtain ⟨x,m,rfl⟩:=aA.1 hz;exact (u e x m).leX A
include hT in
theorem Du {t} {i} {kt z} (h:get T t=some i) (hk:i.kind=9) (hf:i.flds=[(z,kt)]):Γ.P.underlying t=some (.map kt i.elem):=by
 obtain ⟨q,d,h1,h2,b⟩:=eo hT h;simp only [TI.of,h1,h2,aB] at b;subst b;cases d <;> simp at hk;rename_i k e;simp only [gG,ew] at hf;rw [h2,hf.1.2]
include hΓ hT in
theorem nB {K} {t} {x y z} {b} (J:o.op = .mapUpdate t x y z\/o.op = .insert t x y z) (hI:ef Γ s a w) (hx:ev s x = .lit (.map (some b)))
  (h:zg T s o.dst t b (ev s y) (ev s z) K) (hn:∀ k v,K k v->(∀ d n xs,get s.t d=some (.me .ents k n xs)->d=xk k)->dS Γ a o.dst w (fun s'=>s'=⟨(xk k,v)::s.t,s.b⟩) next)
  (harr:∀ k v,K k v->∀ d n xs,get s.t d=some (.me .ents k n xs)->d=xk k):o.wpIn Γ.F Γ.n Γ.P a w next Q:=by
 obtain ⟨c,hW,ht⟩:=hI.ex;unfold zg at h;split at h
 ·rename_i im hdst him;split at h
  ·rename_i kz kt hfl;split at h
   ·rename_i i hi
    cases hb:Nat.beq im.kind 9 with
    | false=>rw [hb] at h; exact h.elim
    | true=>
     rw [hb,aP] at h
     cases hkk:nK i with
     | none=>rw [hkk] at h; exact h.elim
     | some skn=>
     obtain ⟨sk,sn⟩:=skn;rw [hkk] at h;have X:=tu hT hi hkk;obtain ⟨k,l,key,⟨hk,hkey,hlen,U⟩,hK⟩:=h;rw [oL] at hK;have hcl:=harr k _ hK;have hm:=Du hT him (ak hb) hfl;obtain ⟨es,clock,e1,q1,hll,E⟩:=Wd X.pos U (show RX c .ents k b (gp sk l) (a.tmps.getD (xk k) Go.undef) from ht _ _ hk);have hq:=hW.xo k b _ e1;have hrx:RD c.m (.lit (.map (some b))) (a.eval x):=by have:=cq ht x; rwa [hx] at this
     have hvx:a.eval x = .map (some b):=by generalize a.eval x=u at hrx; cases hrx; rfl
     have hry:=cq ht y;rw [hkey] at hry;have hry':RD c.m (keyE sk key) (a.eval y):=hry.keyE_RD X.pos hlen;have hvy:=hry'.keyE X.pos hlen;have hrz:RD c.m (ev s z).pub (a.eval z):=(cq ht z).pub
     have hes:∀ e∈es.toList,∃ y:List Int,e.key=sg sk y/\y.length=sn:=fun e he=>by
      obtain ⟨j,hj,rfl⟩:=cI he;obtain ⟨p,p1,p2,_⟩:=E j _ (by rw [<- cU]; exact ai hj);exact ⟨p.1,p2,U p (aC p1)⟩
     have hex:∀ (u:Unit) (w':World),(Instr.mapUpdate t (.map (some b)) (sg sk key) (a.eval z)).run Γ.P w = .ok u w'->(execOp a.eval o).run Γ.P w = .ok .skip w':=fun u w' hr=>by
      rcases J with J | J <;> simp only [execOp,J,aD,hvx,hvy,hr,aw,aL]
     -- the new content
     have hsn:∀ p∈iM key (ev s z).pub l,p.1.length=sn:=fun p hp=>by
      rcases H7 hp with h | h
      ·rw [h]; exact hlen
      ·exact U p h
     have fin:∀ (L:Array MapEntry) (A:Nat),(Instr.mapUpdate t (.map (some b)) (sg sk key) (a.eval z)).run Γ.P w = .ok () (w.putObj b (.map L A))->ll L A->(iM key (ev s z).pub l).length=L.size ->
       (∀ (j:Nat) (p:List Int×AV) (e:MapEntry),(iM key (ev s z).pub l)[j]?=some p->L[j]?=some e->e.key=sg sk p.1/\RD c.m p.2 e.val)->o.wpIn Γ.F Γ.n Γ.P a w next Q:=by
      intro L A hrun B hsz hrel;obtain ⟨W1,W2,W3⟩:=hW.putX e1 (.map L A) rfl (fun _ _ _ h=>nomatch h);refine mM hΓ (by rcases J with J | J <;> (rw [J]; intro c hc; cases hc)) (hex _ _ hrun) ?_;rw [hdst];refine hn k _ hK hcl _ _ _ rfl (hI.next W3 W1 (d:=none) (v:=Go.undef) (by intro k hk; cases hk) (fun d z' hz=>?_)) W3 (lC hdst);rw [bf] at hz;split at hz
      ·cases hz;refine ⟨L,A,aV rfl,B,by rw [wz]; exact hsz,?_,?_,?_⟩
       ·intro r hr;obtain ⟨j,hj⟩:=ct hr;obtain ⟨p,_,rfl⟩:=wA hj;rfl
       ·intro j r e y' h1 h2 h3;obtain ⟨p,p1,rfl⟩:=wA h1;simp only [bD,aB] at h3;subst h3;rw [(hrel j p e p1 h2).1];exact Om _ X.pos (hsn p (aC p1))
       ·intro j r e y' h1 h2 h3;obtain ⟨p,p1,rfl⟩:=wA h1;simp only [fk,bD,aB] at h3;subst h3;exact (hrel j p e p1 h2).2
      ·rename_i hd;have hz':=ht d z' hz
       cases z' with
       | me g k' n' N=>
        by_cases hk':k'=k
        ·subst hk'
         cases g with
         | sl=>obtain ⟨p1,p2,p3,p4,D,_⟩:=(show RX c .sl k' n' N (a.tmps.getD d Go.undef) from hz'); rw [e1] at D; cases D
         | ptr sz2 j2=>obtain ⟨p1,p2,p3,D,_⟩:=(show RX c (.ptr sz2 j2) k' n' N (a.tmps.getD d Go.undef) from hz'); rw [e1] at D; cases D
         | arr=>obtain ⟨p1,p2,p3,D,_⟩:=(show RX c .arr k' n' N (a.tmps.getD d Go.undef) from hz'); rw [e1] at D; cases D
         | row b0 c0=>obtain ⟨p1,p2,D,_⟩:=(show RX c (.row b0 c0) k' n' N (a.tmps.getD d Go.undef) from hz'); rw [e1] at D; cases D
         | mp=>
          obtain ⟨p1,p2,p3,D,p6⟩:=(show RX c .mp k' n' N (a.tmps.getD d Go.undef) from hz');rw [e1] at D; cases D;exact ⟨b,L,A,aV rfl,p6⟩
         | ents=>grind
         | sub sz2 l2=>obtain ⟨p1,p2,p3,p4,p6,D,_⟩:=(show RX c (.sub sz2 l2) k' n' N (a.tmps.getD d Go.undef) from hz'); rw [e1] at D; cases D
         | box=>obtain ⟨p1,p2,p3,D,_⟩:=(show RX c .box k' n' N (a.tmps.getD d Go.undef) from hz'); rw [e1] at D; cases D
        ·have:=hz'.leX W2;simp only [AV.unme,show Nat.beq k k'=false from by cases hb:Nat.beq k k' with | false=>rfl | true=>exact absurd (ak hb).symm hk'] at this;exact this
       | _=>exact hz'.leX W2
     rcases um (w:=w) X hm key hlen (a.eval z) hq.obj hes with ⟨h1,h2⟩ | ⟨j,e,h1,h2,h3⟩
     ·have hup:iM key (ev s z).pub l=l++[(key,(ev s z).pub)]:=Cp fun p hp hc=>by
       obtain ⟨j,hj,rfl⟩:=cI hp;have hj':j<es.size:=by omega
       have hje:=aE hj';grind
      refine fin _ _ h1 ⟨fun i e he=>?_,fun i M e e' G H Z=>?_,fun i M e e' G H Z=>?_⟩ (by rw [hup]; simp [hll]) (fun i p e G H=>?_)
      ·rw [gK] at he;split at he
       ·cases he; simp
       ·have:=q1.1 i e he; omega
      ·rw [gK] at G H;split at G <;> split at H
       ·omega
       ·cases G; have:=q1.1 _ _ H; simp only at Z; omega
       ·cases H; have:=q1.1 _ _ G; simp only at Z; omega
       ·exact q1.2.1 i M e e' G H Z
      ·rw [gK] at G H;have hmem:∀ (n:Nat) (f:MapEntry),es[n]?=some f->f∈es.toList:=fun n f hf=>by grind
       split at G <;> split at H
       ·omega
       ·grind
       ·grind
       ·exact q1.2.2 i M e e' G H Z
      grind
     ·obtain ⟨p,p1,p2,p3⟩:=E j e h2;have hpk:p.1=key:=by rw [h3] at p2; exact (X.inj _ _ hlen (U p (aC p1)) p2).symm
      have huniq:∀ (i M:Nat) (q q':List Int×AV),l[i]?=some q->l[M]?=some q'->q.1=q'.1->i=M:=fun i M q q' G H Z=>by
       have hi1:i<es.size:=by rw [<- hll]; exact (aq.1 G).1
       have hi2:M<es.size:=by rw [<- hll]; exact (aq.1 H).1
       obtain ⟨r,r1,r2,_⟩:=E i _ (aE hi1);obtain ⟨r',r1',r2',_⟩:=E M _ (aE hi2);rw [G] at r1; cases r1;rw [H] at r1'; cases r1';exact q1.2.2 i M _ _ (aE hi1) (aE hi2) (by rw [r2,r2',Z])
      have hup:iM key (ev s z).pub l=l.set j (key,(ev s z).pub):=Co p1 hpk huniq
      have hget:∀ n,(es.modify j fun e=>{ e with key:=sg sk key,val:=a.eval z })[n]?=if j=n then (es[n]?).map (fun e=>{ e with key:=sg sk key,val:=a.eval z }) else es[n]?:=fun n=>by
       grind
      have B:∀ (n:Nat) (f:MapEntry),(es.modify j fun e=>{ e with key:=sg sk key,val:=a.eval z })[n]?=some f->∃ f0,es[n]?=some f0/\f0.born=f.born/\f0.key=f.key:=fun n f hf=>by
       grind
      refine fin _ _ h1 ⟨fun i e he=>?_,fun i M e e' G H Z=>?_,fun i M e e' G H Z=>?_⟩ (by rw [hup]; simp [hll]) (fun i p e G H=>?_)
      ·obtain ⟨f0,g1,g2,_⟩:=B i e he;rw [<- g2]; exact q1.1 i f0 g1
      ·obtain ⟨f0,g1,g2,_⟩:=B i e G;obtain ⟨f1,g1',g2',_⟩:=B M e' H;exact q1.2.1 i M f0 f1 g1 g1' (by rw [g2,g2',Z])
      ·obtain ⟨f0,g1,_,g2⟩:=B i e G;obtain ⟨f1,g1',_,g2'⟩:=B M e' H;exact q1.2.2 i M f0 f1 g1 g1' (by rw [g2,g2',Z])
      grind
   ·exact h.elim
  ·exact h.elim
 ·exact h.elim
end
end Go.AI
