/- Part 20a of the proof: facts of the row and of the card; the conditions are those typed. -/
import Derived.Test.YtapmehbkgihgaaaGreatDoorNH
import Derived.Test.YtapmehbkgihgaaaGreatDoorTie
import Derived.Test.YtapmehbkgihgaaaGreatDoorCards
set_option linter.unusedSectionVars false
set_option linter.unusedVariables false
set_option linter.unusedSimpArgs false
namespace Go.Proofs
open Go Go.AI Go.Proofs.YtapmehbkgihgaaaGreatDoor
set_option maxRecDepth 100000
theorem Q7:ownKnob Tryz.prog.godebug=none:=by kernel_rfl
theorem Eg:laidOutB Tryz.prog=true:=by kernel_rfl
theorem Js:(Tryz.prog.readableRec 29&&Nat.blt 29 Tryz.prog.types.size)=true:=by kernel_rfl
def TV:List Sh:=[.int .i64,.sl [.int .i64,.int .i64,.int .i64,.int .i64,.int .i64,.int .i64,.int .i64],.sl [.int .i64,.int .i64,.int .i64,.int .i64],.sl [.sl [.int .i64,.int .i64,.int .i64]],.sl [.sl [.int .i64,.int .i64,.int .i64,.int .i64,.int .i64]],.sl [.int .i64,.int .i64,.int .i64,.int .i64],.sl [.int .i64,.int .i64,.int .i64],.sl [.int .i64],.int .i64,.int .i64]
def S8:List (Bool×List Sh):=[(true,TV)]
theorem Uk:o0 Tryz.prog 8 [29]=some S8:=by kernel_rfl
abbrev Ck:List (String×DataW Unit):=[("math/bits.deBruijn32tab",Rows.laid_math_bits_deBruijn32tab),("math/bits.deBruijn64tab",Rows.laid_math_bits_deBruijn64tab)]
theorem Xo:Tryz.prog.globalNamed "math/bits.deBruijn64tab" = some 1:=by kernel_rfl
theorem Xm:((List.range Tryz.prog.globals.size).all fun b=>Nat.beq b 1 || !(match Tryz.prog.globals[b]? with | some x=>x.name == "math/bits.deBruijn64tab" | none=>false))=true:=by kernel_rfl
theorem Xn (W:World) (h:laidMetH Tryz.prog Ck W):(gf Tryz.prog).le (kU W):=by
 refine WH (laid:=Ck) (g:=1) (t:=424) (e:=5) Xo aI (fun b x a hx=>?_) aI aI aI aI (a6 _ (cv.2 (by rfl))) W h;have h1:=aN.1 Xm b (bB.2 (aO.1 a).1);rw [a] at h1;dsimp only at h1;rw [hx,jj,fu] at h1;exact aj h1
theorem Rz (os:Os) (args:Array Value):laidMetH Tryz.prog Ck ((World.doorLaid Tryz.prog 400 os).forCall (fun _ _=>0) ⟨#[],args,[]⟩).memory:=
 laidMetH_of_parts3 (fuel:=8) (laidMet_of_run' 8 aI aI) aI aI
theorem XZ:Tryz.pinned.checked.prog.funcs.any Func.goes=false:=by kernel_rfl
theorem goes_none {c:OpenClaim} {P:Program} (h:P.funcs.any Func.goes=false) (a:c.start = .entering):false=c.goesBy P:=by
 have b:∀ g:Nat,(P.funcs[g]?).any Func.goes=false:=fun g=>by
  cases hx:P.funcs[g]? with
  | none=>rfl
  | some fn=>
   obtain ⟨hl,rfl⟩:=aO.1 hx;show Func.goes P.funcs[g]=false;have:=Array.any_eq_false.1 h g hl;simpa using this
 have h2:∀ f,P.goes f=false:=fun f=>by
  unfold Program.goes;rw [h,bP,fu];simp [b]
 unfold OpenClaim.goesBy Program.goesAt Program.goesFrom;rw [a];cases P.funcNamed c.func <;> simp [h2]
theorem JH (d:∀ avs,vA 8 S8 avs->aq Tryz.prog 3 avs (.bool true)) (os:Os) (a:os.Started) (H:Type) (enc:TypeId×Value->H) :
  ReturnsInHanded {} Tryz.checked os 3 .any (fun w args=>(Rows.planNothingSpec.pre enc Tryz.prog Tryz.f3 [] false w args/\laidMetH Tryz.prog Ck w)/\sizedMet enc Tryz.prog Tryz.f3 (OpenSpec.ofChange Rows.planNothingSpec) false w args) (Rows.planNothingSpec.post enc Tryz.prog Tryz.f3 false true false false):=
 S7 (C:=Tryz.checked) (tb:=4) (laid:=Ck) Q7 a aI Tryz.func3
  (ChangeSpec.witness_shaped (enc:=enc) (C:=Tryz.checked) (os:=os) (X:=fun w _=>laidMetH Tryz.prog Ck w) false (World.doorLaid Tryz.prog 400 os) #[.agg #[.int .i64 0,.slice none 0 0,.slice none 0 0,.slice none 0 0,.slice none 0 0,.slice none 0 0,.slice none 0 0,.slice none 0 0,.int .i64 0,.int .i64 0]] 8 rfl (World.shaped_of_RefB aI aI) aI aI aI (Rz os _))
  rfl aI aI (fun ds h=>by
   match ds,h with
   | [f],_=>rfl) Uk Eg (fun t b=>by
   have e:Tryz.f3.params.toList=[29]:=by kernel_rfl
   rw [e] at b;simp only [bF,pS,or_false] at b;have c:=Js;simp only [al] at c;subst b;exact ⟨c.1,ah c.2⟩) Xn d
theorem UA:(Rows.planNothingRow.wf (OpenSpec.ofChange Rows.planNothingSpec):Bool)=true:=by kernel_rfl
theorem Uz:(laidOutB Tryz.pinned.checked.prog:Bool)=true:=by kernel_rfl
theorem Uy:(mapsRowed Tryz.pinned.checked.prog:Bool)=true:=by kernel_rfl
theorem Ux:(Tryz.f3.params.all (Tryz.pinned.checked.prog.readableRec ·):Bool)=true:=by kernel_rfl
theorem Uw:(namedTie Tryz.pinned.checked.prog Rows.planNothingRow.named Rows.planNothingSpec.vars:Bool)=true:=by kernel_rfl
theorem Uv:((Rows.planNothingRow.stops==[]):Bool)=true:=by kernel_rfl
theorem Uu:((Tryz.pinned.checked.prog.stops==[]):Bool)=true:=by kernel_rfl
theorem Ut:((Rows.planNothingRow.knobs==[]):Bool)=true:=by kernel_rfl
theorem Us:((Tryz.pinned.checked.prog.stopKnobs==[]):Bool)=true:=by kernel_rfl
theorem Ur:((Rows.planNothingRow.inPlace==Tryz.pinned.checked.prog.inPlace 3):Bool)=true:=by kernel_rfl
theorem Rw:((Rows.planNothingRow.unfollowed==Tryz.pinned.checked.prog.unfollowed 3):Bool)=true:=by kernel_rfl
theorem Rv:((Rows.planNothingRow.recurses==Tryz.pinned.checked.prog.recurses 3):Bool)=true:=by kernel_rfl
theorem Ru:((Rows.planNothingRow.named==Tryz.pinned.checked.prog.varsNamed 3):Bool)=true:=by kernel_rfl
theorem Rt:((Rows.planNothingRow.maps==(Tryz.f3.params.toList++Rows.planNothingSpec.plain.varTypes Tryz.pinned.checked.prog).any (Tryz.pinned.checked.prog.mapsRec ·)):Bool)=true:=by kernel_rfl
theorem Rs:((Rows.planNothingRow.ifaces==(Tryz.f3.params.toList++Rows.planNothingSpec.plain.varTypes Tryz.pinned.checked.prog).any (Tryz.pinned.checked.prog.ifacesRec ·)):Bool)=true:=by kernel_rfl
theorem Rr:((Rows.planNothingRow.mapsOut==Tryz.pinned.checked.prog.mapsAmong Tryz.f3.resultTypes.toList):Bool)=true:=by kernel_rfl
theorem Rq:((Rows.planNothingRow.loops==(Tryz.f3.params.toList++Rows.planNothingSpec.plain.varTypes Tryz.pinned.checked.prog).any (Tryz.pinned.checked.prog.loopsFrom ·)):Bool)=true:=by kernel_rfl
theorem Rp:((Rows.planNothingRow.wideKeys==(Tryz.f3.params.toList++Rows.planNothingSpec.plain.varTypes Tryz.pinned.checked.prog++Tryz.f3.resultTypes.toList).any (Tryz.pinned.checked.prog.wideKeysFrom ·)):Bool)=true:=by kernel_rfl
theorem Ro:(Rows.planNothingSpec.vars.all (Tryz.pinned.checked.prog.varReadable ·):Bool)=true:=by kernel_rfl
theorem Rn:(Tryz.f3.resultTypes.all (fun t=>Tryz.pinned.checked.prog.readableRec t&&decide (t<Tryz.pinned.checked.prog.types.size)):Bool)=true:=by kernel_rfl
theorem Rm:((Rows.planNothingRow.ifacesOut==Tryz.f3.resultTypes.toList.any (Tryz.pinned.checked.prog.ifacesRec ·)):Bool)=true:=by kernel_rfl
theorem Rl:((Rows.planNothingRow.loopsOut==Tryz.f3.resultTypes.toList.any (Tryz.pinned.checked.prog.loopsFrom ·)):Bool)=true:=by kernel_rfl
theorem Rk:((Rows.planNothingRow.plainKeys==Tryz.pinned.checked.prog.plainKeys):Bool)=true:=by kernel_rfl
theorem Rj:(Rows.planNothingRow.shortTexts.isNone:Bool)=true:=by kernel_rfl
theorem Ri:(Tryz.pinned.checked.prog.stopsHeard:Bool)=true:=by kernel_rfl
theorem Rh:(Tryz.pinned.checked.prog.mayEnter:Bool)=true:=by kernel_rfl
theorem Rg:((Rows.planNothingRow.lifted==Tryz.pinned.checked.prog.liftsFinal):Bool)=true:=by kernel_rfl
theorem Rf:((Tryz.pinned.checked.prog.make==some Rows.planNothingRow.make):Bool)=true:=by kernel_rfl
theorem Re:((Rows.planNothingRow.kinds==(if Rows.planNothingRow.domain.isEmpty then [] else Tryz.f3.params.toList.map fun t=>match Tryz.pinned.checked.prog.underlying t with | some (.int k)=>some k | _=>none)):Bool)=true:=by kernel_rfl
theorem Rd:((Rows.planNothingRow.pinned==Rows.planNothingRow.pinnedBy):Bool)=true:=by kernel_rfl
theorem Rc:((Rows.planNothingRow.veiled==(Tryz.f3.params.toList++Rows.planNothingSpec.plain.varTypes Tryz.pinned.checked.prog++Tryz.f3.resultTypes.toList).any (Tryz.pinned.checked.prog.veiledRec ·)):Bool)=true:=by kernel_rfl
theorem Rb:(Rows.planNothingRow.veiledFits Tryz.pinned.checked.prog Tryz.f3.params.toList (Tryz.f3.params.toList++Rows.planNothingSpec.plain.varTypes Tryz.pinned.checked.prog++Tryz.f3.resultTypes.toList):Bool)=true:=by kernel_rfl
theorem fX {a b:Bool} (h:a=true) (k:b=true):(a&&b)=true:=by rw [h,k]; rfl
theorem Xl:joinedFacts Tryz.pinned.checked.prog 3 Tryz.f3 Rows.planNothingSpec Rows.planNothingRow=true:=by
 unfold joinedFacts;exact fX (fX (fX (fX (fX (fX (fX (fX (fX (fX (fX (fX (fX (fX (fX (fX (fX (fX (fX (fX (fX (fX (fX (fX (fX (fX (fX (fX (fX (fX (fX (UA) Uz) Uy) Ux) Uw) Uv) Uu) Ut) Us) Ur) Rw) Rv) Ru) Rt) Rs) Rr) Rq) Rp) Ro) Rn) Rm) Rl) Rk) Rj) Ri) Rh) Rg) Rf) Re) Rd) Rc) Rb
theorem QI (b:∀ avs,vA 8 S8 avs->aq Tryz.prog 3 avs (.bool true)):Rows.PlanNothingSaid:=
 OpenClaim.holds_of_wide (p:=Tryz.pinned) (s:=Rows.planNothingSpec) (c:=Rows.planNothingRow) 3 Tryz.f3 rfl rfl rfl rfl rfl rfl rfl ⟨rfl,rfl,rfl,rfl,rfl⟩ rfl rfl rfl rfl rfl aI Tryz.func3 Xl
  (aH aI) (by unfold Func.isWrapper; first | (rw [aX (by decide +kernel)]; kernel_rfl) | (rw [aV (by decide +kernel)]; exact ⟨rfl,rfl⟩))
  (fun os a H enc _=>JH b os a H enc)
theorem Oy {α:Type} {p:α->Prop} {f:α->List AV}:∀ {xs:List (List AV)},(∀ x∈xs,∃ z,p z/\x=f z)->∃ a:List α,(∀ z∈a,p z)/\xs=a.map f
 | [],_=>⟨[],by simp,rfl⟩
 | x::r,h=>by
  obtain ⟨a,h1,rfl⟩:=Oy (xs:=r) fun y hy=>h y (a6 _ hy);obtain ⟨z,h2,rfl⟩:=h x (a7 ..);exact ⟨z::a,fun y hy=>by rcases bF.1 hy with rfl | hy; exact h2; exact h1 y hy,rfl⟩
theorem xb {α:Type} {p:α->Prop} {f:α->List AV} {n:Nat} {e:List Sh} {a:AV} (h:kK (n+1) (.sl e) a) (hf:∀ x,Fa (kK n) e x->∃ z,p z/\x=f z):∃ b:List α,(∀ z∈b,p z)/\b.length<=9223372036854775807/\a = .sl .no e.length (b.map f):=by
 obtain ⟨xs,rfl,hl,h2⟩:=h;obtain ⟨b,g1,rfl⟩:=Oy fun x hx=>hf x (h2 x hx);exact ⟨b,g1,by rwa [az] at hl,rfl⟩
theorem Tp {l:List Int} (h:∀ y∈l,nR y) (i:Nat):nR (l.getD i 0):=by
 rw [aK]
 cases hi:l[i]? with
 | none=>exact PX
 | some y=>exact h y (aC hi)
theorem We {n:Nat} {x:List AV} (h:Fa (kK (n+1)) [.int .i64] x):∃ z,nR z/\x=[AV.int .i64 z]:=by
 obtain ⟨b,q,rfl,a,h⟩:=bZ h;obtain rfl:=jX h;obtain ⟨z0,rfl,i0⟩:=eC a;exact ⟨z0,i0,rfl⟩
theorem Oa {n:Nat} {x:List AV} (h:Fa (kK (n+1)) [.int .i64,.int .i64,.int .i64] x):∃ z,uv z/\x=gV z:=by
 obtain ⟨d,q,rfl,a,h⟩:=bZ h;obtain ⟨b1,q,rfl,h1,h⟩:=bZ h;obtain ⟨c,q,rfl,h2,h⟩:=bZ h;obtain rfl:=jX h;obtain ⟨z0,rfl,i0⟩:=eC a;obtain ⟨b,rfl,i1⟩:=eC h1;obtain ⟨z2,rfl,i2⟩:=eC h2;exact ⟨(z0,b,z2),⟨i0,i1,i2⟩,rfl⟩
theorem Wd {n:Nat} {x:List AV} (h:Fa (kK (n+1)) [.int .i64,.int .i64,.int .i64,.int .i64,.int .i64] x):∃ z,wv z/\x=gU z:=by
 obtain ⟨j,q,rfl,a,h⟩:=bZ h;obtain ⟨b1,q,rfl,h1,h⟩:=bZ h;obtain ⟨e,q,rfl,h2,h⟩:=bZ h;obtain ⟨i,q,rfl,b,h⟩:=bZ h;obtain ⟨f,q,rfl,c,h⟩:=bZ h;obtain rfl:=jX h;obtain ⟨z0,rfl,i0⟩:=eC a;obtain ⟨d,rfl,i1⟩:=eC h1;obtain ⟨z2,rfl,i2⟩:=eC h2;obtain ⟨z3,rfl,i3⟩:=eC b;obtain ⟨z4,rfl,i4⟩:=eC c;exact ⟨⟨z0,d,z2,z3,z4⟩,⟨i0,i1,i2,i3,i4⟩,rfl⟩
theorem NZ {n:Nat} {x:List AV} (h:Fa (kK (n+1)) [.int .i64,.int .i64,.int .i64,.int .i64] x):∃ z:Nat->Int,(∀ i,nR (z i))/\x=yA z:=by
 obtain ⟨f,q,rfl,a,h⟩:=bZ h;obtain ⟨b1,q,rfl,h1,h⟩:=bZ h;obtain ⟨d,q,rfl,h2,h⟩:=bZ h;obtain ⟨e,q,rfl,b,h⟩:=bZ h;obtain rfl:=jX h;obtain ⟨z0,rfl,i0⟩:=eC a;obtain ⟨c,rfl,i1⟩:=eC h1;obtain ⟨z2,rfl,i2⟩:=eC h2;obtain ⟨z3,rfl,i3⟩:=eC b;exact ⟨fun i=>[z0,c,z2,z3].getD i 0,Tp (by simp [*]),rfl⟩
theorem Wc {n:Nat} {x:List AV} (h:Fa (kK (n+1)) [.int .i64,.int .i64,.int .i64,.int .i64,.int .i64,.int .i64,.int .i64] x):∃ z:Nat->Int,(∀ i,nR (z i))/\x=d8 z:=by
 obtain ⟨u,q,rfl,b,h⟩:=bZ h;obtain ⟨b1,q,rfl,h1,h⟩:=bZ h;obtain ⟨o,q,rfl,h2,h⟩:=bZ h;obtain ⟨r,q,rfl,c,h⟩:=bZ h;obtain ⟨p,q,rfl,e,h⟩:=bZ h;obtain ⟨l,q,rfl,j,h⟩:=bZ h;obtain ⟨m,q,rfl,d,h⟩:=bZ h;obtain rfl:=jX h;obtain ⟨z0,rfl,i0⟩:=eC b;obtain ⟨f,rfl,i1⟩:=eC h1;obtain ⟨z2,rfl,i2⟩:=eC h2;obtain ⟨z3,rfl,i3⟩:=eC c;obtain ⟨z4,rfl,i4⟩:=eC e;obtain ⟨z5,rfl,i5⟩:=eC j;obtain ⟨a,rfl,t⟩:=eC d;exact ⟨fun i=>[z0,f,z2,z3,z4,z5,a].getD i 0,Tp (by simp [*]),rfl⟩
theorem Ov {α:Type} {p:α->Prop} {f:α->List AV} {n:Nat} {e:List Sh} (hf:∀ x,Fa (kK n) e x->∃ z,p z/\x=f z) (x:List AV) (h:Fa (kK (n+1)) [.sl e] x):∃ a:List α,(∀ z∈a,p z)/\x=[.sl .no e.length (a.map f)]:=by
 obtain ⟨c,q,rfl,b,h⟩:=bZ h;obtain rfl:=jX h;obtain ⟨a,g1,_,rfl⟩:=xb b hf;exact ⟨a,g1,rfl⟩
theorem W6 {n:Nat} {cs:List AV} (h:Fa (kK (n+3)) TV cs):∃ d:bS,cK d/\cs=fM d:=by
 obtain ⟨v,q,rfl,a,h⟩:=bZ h;obtain ⟨b1,q,rfl,h1,h⟩:=bZ h;obtain ⟨z,q,rfl,h2,h⟩:=bZ h;obtain ⟨u,q,rfl,j,h⟩:=bZ h;obtain ⟨A,q,rfl,b,h⟩:=bZ h;obtain ⟨r,q,rfl,f,h⟩:=bZ h;obtain ⟨t,q,rfl,m,h⟩:=bZ h;obtain ⟨y,q,rfl,e,h⟩:=bZ h;obtain ⟨B,q,rfl,i,h⟩:=bZ h;obtain ⟨w,q,rfl,o,h⟩:=bZ h;obtain rfl:=jX h;obtain ⟨t0,rfl,i0⟩:=eC a;obtain ⟨orbs,i1,_,rfl⟩:=xb h1 fun x=>Wc;obtain ⟨sq,i2,_,rfl⟩:=xb h2 fun x=>NZ;obtain ⟨pss,i3,_,rfl⟩:=xb j (Ov fun x=>Oa);obtain ⟨opts,i4,_,rfl⟩:=xb b (Ov fun x=>Wd);obtain ⟨ords,i5,_,rfl⟩:=xb f fun x=>NZ;obtain ⟨buns,l,p,rfl⟩:=xb m fun x=>Oa;obtain ⟨quo,c,_,rfl⟩:=xb e fun x=>We;obtain ⟨loss,rfl,i8⟩:=eC i;obtain ⟨prom,rfl,i9⟩:=eC o;exact ⟨⟨t0,orbs,sq,pss,opts,ords,buns,quo,loss,prom⟩,⟨i0,i1,i2,i3,i4,i5,l,p,c,i8,i9⟩,rfl⟩
theorem Pw {n:Nat} {L:List Sh} {r:List (Bool×List Sh)} {avs:List AV} (h:vA n ((true,L)::r) avs):∃ cs q,avs = .agg cs::q/\Fa (kK n) L cs/\vA n r q:=by
 match avs,h with
 | _::q,h=>
  obtain ⟨⟨cs,rfl,h1⟩,h2⟩:=h;exact ⟨cs,q,rfl,h1,h2⟩
 | [],h=>exact h.elim
theorem Pv {n:Nat} {avs:List AV} (h:vA n [] avs):avs=[]:=by
 match avs,h with
 | [],_=>rfl
 | _::_,h=>exact h.elim
end Go.Proofs
