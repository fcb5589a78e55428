/- Part 4 of the proof: an abstract interpreter for the code, contracts of the functions, and plain facts; the conditions are those typed. -/
import Derived.Test.YthjhnnmcdhokcaaGreatDoorNC
import Derived.Shelf.SlLaysF0
import Derived.Tactics2
set_option linter.unusedSectionVars false
set_option linter.unusedVariables false
set_option linter.unusedSimpArgs false
namespace Go.AI
open Go
abbrev aG:=@List.getD_eq_getElem?_getD
theorem bw {a b:Prop} (h:b):a∨b:=Or.inr h
abbrev bE:=@Bool.false_and
abbrev bN:=@Bool.and_false
abbrev cH:=@Bool.and_true
abbrev cJ:=@List.foldl_append
abbrev dw:=@List.map_append
abbrev dW:=@Int.tdiv_eq_ediv_of_nonneg
abbrev fe:=@Int.tmod_lt_of_pos
abbrev fG:=@Int.tmod_eq_emod_of_nonneg
abbrev iv:=@Bool.not_eq_false'
abbrev mL:=@Int.tmod_nonneg
abbrev qq:=@Int.le_of_sub_nonneg
abbrev sd:=@List.getElem?_range
abbrev tP:=@List.pairwise_cons
abbrev tR:=@Int.emod_lt_of_pos
abbrev yL:=@List.not_mem_nil
abbrev Bj:=@Int.emod_nonneg
abbrev Ch:=@Bool.and_eq_false_iff
abbrev Ma:=@List.map_take
abbrev Wi:=@Int.mul_le_mul_of_nonpos_right
abbrev Wj:=@Int.mul_le_mul_of_nonneg_right
abbrev aai:=@List.findSome?_eq_none_iff
abbrev aby:=@false_iff
end Go.AI
namespace Go.Proofs
open Go Go.AI
set_option maxRecDepth 10000
def c2 (p:Int×Int):List Int:=[p.1,p.2]
def c2i (k:List Int):Int×Int:=(k.getD 0 0,k.getD 1 0)
def iG (l:List (Int×Int)):List (List Int×AV):=l.map fun p=>(c2 p,.bool true)
def fg (p:Int×Int):List AV:=[.int .i64 p.1,.int .i64 p.2]
theorem AQ (l:List (Int×Int)):s5 Tryz.prog (fun p:Int×Int=>#[eh (c2 p)]) 354 [.ref [.mapv (j8 (iG l))]] (fun p x=>x∈l/\x ∉ p/\p.length<l.length) (fun p=>p.Perm l):=by
 have hk:(iG l).map (·.1)=l.map c2:=by simp [iG]
 have h:=BO (iG l) (fun p o=>by
  obtain ⟨q,_,rfl⟩:=bp.1 o;rfl)
 refine ⟨h.1,fun m P hlen L F n u c v i E J Jx W N z B a b r=>?_⟩
 refine CallsIn.mono (h.2 m P hlen L F n u c v i E (fun q w=>∃ p,q=p.map c2/\J p w) Jx W N z (fun q A X h U=>by
  grind) a ?_ ⟨[],rfl,r⟩) ?_
 ·rintro q x A ⟨hx,d,f⟩ ⟨p,rfl,t⟩ hm;rw [hk] at hx;obtain ⟨y,hy,rfl⟩:=bp.1 hx;obtain ⟨fn,tmps,j,H,D,Q⟩:=b p y A ⟨hy,fun G=>d (LU G),by simpa [iG] using f⟩ t hm;exact ⟨fn,tmps,j,H,D,Q.mono fun e Z h=>h.imp (fun ⟨h1,h2,M⟩=>⟨h1,⟨p++[y],by simp,h2⟩,M⟩) id⟩
 ·rintro e w' ⟨h1,h2⟩;refine ⟨h1,h2.imp (fun ⟨q,d,p,o,t⟩=>⟨p,?_,t⟩) id⟩;rw [hk,o] at d;have:=d.map c2i;simpa [Function.comp_def,c2i,c2] using this
theorem Zt (m:d5) (x:Int×Int) (i:Nat) (c:AV) (v:Value) (h1:[AV.agg (fg x)][i]?=some c) (h2:(#[eh (c2 x)])[i]?=some v):RD m c v:=by
 match i,h1,h2 with
 | 0,h1,h2=>cases h1; cases h2; exact vR m (c2 x)
def Ax (l:List (Int×Int)):AV := .sl .no 2 (l.map fg)
def abK:List (Int×Int)->AV
 | [] => .sl .full 0 []
 | x::r => .sl (.id 11) 2 (fg x::r.map fg)
set_option maxHeartbeats 1000000 in
theorem Vh (l:List (Int×Int)) (hl:l.length<=1000000):j3 Tryz.prog 372 [.sl .full 0 [],.clo 354 [.ref [.mapv (j8 (iG l))]]] (fun r=>∃ p:List (Int×Int),p.Perm l/\r=Ax p):=by
 refine j3.ofB af Tryz.func372 rfl aK bj (ah rfl) ?_;intro F h w0 m0 hG d h1;refine aI.seq ?_;refine aI.reg hG af gA aK ?_
 conv=>whnf
 refine aI.seq ?_;refine aI.seq ?_;refine aI.reg hG af gA aK ?_
 conv=>whnf
 refine aI.block ?_
 refine ⟨xq hG h1 (α:=Int×Int) (fun x=>[.agg (fg x)]) (f:=354) (cap:=[.ref [.mapv (j8 (iG l))]]) (nx:=fun p x=>x∈l/\x ∉ p/\p.length<l.length) (fin:=fun p=>p.Perm l) rfl (vZ (AQ l) (fun _=>rfl) Zt) (fun _=>rfl)
  (fun _=>[(2,.loc 2 0)]) [2] (fun _=>rfl) (fun pre=>[(2,[abK pre])]) (St.le.of ?_ ?_) aK bt ?_ ?_⟩
 ·exact RF
 ·exact RF
 ·intro i c m' a _ _ pre x hx;have hlen:pre.length<1000000:=by omega
  cases pre with
  | nil=>
   refine aI.out (aI.reg a af (2::5::gA) aK ?_)
   conv=>whnf
   refine aa rfl (aa (LE) ?_)
   ·refine aI.out (aI.block ?_);refine aI.reg a af (2::5::gA) aK ?_
    conv=>whnf
    refine aj ?_
    conv=>whnf
    refine aa (show (0+1)*16<=70368744177664 by omega) ?_
    conv=>whnf
    refine aa (show 0+1<=4611686018427387904 by omega) ?_
    conv=>whnf
    refine LE
  | cons y pre=>
   refine aI.out (aI.reg a af (2::5::gA) aK ?_)
   conv=>whnf
   refine aa rfl (aa (LE) ?_)
   ·refine aI.out (aI.block ?_);refine aI.reg a af (2::5::gA) aK ?_
    conv=>whnf
    have e:(fg y::pre.map fg).length+1<=1000001:=by simp at hlen ⊢; omega
    refine aa (show ((fg y::pre.map fg).length+1)*16<=70368744177664 by omega) ?_
    conv=>whnf
    refine aa (show (fg y::pre.map fg).length+1<=4611686018427387904 by omega) ?_
    conv=>whnf
    refine St.le.of ?_ ?_
    ·exact RF
    ·refine aa (ax some (ax (fun z=>[AV.sl (.id 11) 2 z]) ?_)) trivial;simp [fg]
 ·intro p b
  conv=>whnf
  refine aI.seq ?_
  cases p with
  | nil=>
   refine aI.reg hG af gA aK ?_
   conv=>whnf
   refine aI.ret hG af ?_;refine ⟨_,⟨[],b,rfl⟩,Ends.mk (aj rfl) bI⟩
  | cons y pre=>
   refine aI.reg hG af gA aK ?_
   conv=>whnf
   refine aI.ret hG af ?_;exact ⟨_,⟨y::pre,b,rfl⟩,Ends.mk (aj rfl) (az rfl)⟩
open Go Go.AI
set_option maxRecDepth 10000
theorem DP {b:Bool} (h:(!b)=true):b=false:=by cases b <;> simp_all
theorem zO {b:Bool} (h:(!b)=false):b=true:=by cases b <;> simp_all
def cm (n:Int):Int:=IntKind.i64.wrap n
theorem a6 {n:Int} (h1:-9223372036854775808<=n) (h2:n<=9223372036854775807):cm n=n:=by unfold cm; rw [qx]; omega
theorem bK {n:Nat} (h:n<9000000000000000000):AV.int .i64 (IntKind.i64.wrap ((n:Int)+1))=AV.int .i64 ((n+1:Nat):Int):=ax _ ((a6 am am).trans am)
def bB (l:List Int):AV := .sl .no 1 (l.map fun h=>[.int .i64 h])
def gT (x y:Int):Int:=if x<y then -1 else if x>y then 1 else 0
def O2:List Int->Int
 | []=>0
 | x::r=>if x≠0 then x else O2 r
theorem Lu (x:Int):ar Tryz.prog 145 [.int .i64 x] (.bool false):=by
 refine aM G1 Tryz.func145 ?_;intro F b w0 m0 hG a h1 kp;refine bv ?_
 all_goals refine Eb ?_
 all_goals simp
theorem nj (x y:Int):ar Tryz.prog 66 [.int .i64 x,.int .i64 y] (.int .i64 (gT x y)):=by
 refine aM KD Tryz.func66 ?_;intro F b w0 m0 hG a h1 kp
 repeat' first|refine aQ ?_|((conv=>whnf); first|refine ae _ (aa (Lu _) ?_)|refine ⟨fun h=>?_,fun h=>?_⟩|refine aj ?_)
 all_goals refine Ei ?_
 all_goals (unfold gT; simp only [aO,gB] at *; split <;> first | omega | (split <;> omega))
theorem rA (l:List Int) (hl:l.length<=1000000):ar Tryz.prog 65 [.sl .full 1 (l.map fun h=>[.int .i64 h])] (.int .i64 (O2 l)):=by
 refine aM KE Tryz.func65 ?_;intro F d w0 m0 hG c h1 kp;refine bv ?_
 refine aI.loop (X:=Nat) (fun i=>⟨[(8,.int .i64 i),(7,.int .i64 (l.map fun h=>[AV.int .i64 h]).length),(6,.sl .full 1 (l.map fun h=>[.int .i64 h])),(3,.int .i64 0)],[]⟩)
  (fun i=>i<=l.length/\O2 l=O2 (l.drop i)) (fun i=>l.length - i) 0 ⟨aZ _,rfl⟩ (St.le.of ?_ ?_) (fun i hi=>?_)
 ·exact RF
 ·exact RF
 ·obtain ⟨hi,a⟩:=hi
  have hx:decide ((i:Int)<((l.map fun h=>[AV.int .i64 h]).length:Int))=true->(l.map fun h=>[AV.int .i64 h])[(i:Int).toNat]?=some [AV.int .i64 (l.getD i 0)]:=fun h=>by
   grind
  have b:decide ((i:Int)<((l.map fun h=>[AV.int .i64 h]).length:Int))=true->i<l.length/\O2 l=if l.getD i 0≠0 then l.getD i 0 else O2 (l.drop (i+1)):=fun h=>by
   have h2:i<l.length:=by have:=aF h; simp at this; omega
   grind [List.drop_eq_getElem_cons,O2,List.getElem?_eq_getElem]
  repeat' first|refine aQ ?_|((conv=>whnf); first|refine aa (au i) (ae [AV.int .i64 (l.getD i 0)] (aa (hx a8) ?_))|refine ⟨fun h=>?_,fun h=>?_⟩|refine aj ?_)
  ·have h1:=b a8;refine Ei ?_;grind
  ·have h1:=b a8;refine ae (i+1) (aa ⟨h1.1,?_⟩ (aa am (LE)));grind
  ·have:l.length<=i:=by have:=aR (by assumption:decide ((i:Int)<((l.map fun h=>[AV.int .i64 h]).length:Int))=false); simp at this; omega
   refine Ei ?_;rw [a,c7 this]; rfl
def cmpC (a b:Int×Int):Int:=O2 [gT a.2 b.2,gT a.1 b.1]
theorem LA (a b:Int×Int):ar Tryz.prog 322 [.agg [.int .i64 a.1,.int .i64 a.2],.agg [.int .i64 b.1,.int .i64 b.2]] (.int .i64 (cmpC a b)):=by
 refine aM E8 Tryz.func322 ?_;intro F d w0 m0 hG c h1 kp;refine bv ?_
 conv=>whnf
 refine ae _ (aa (nj _ _) ?_)
 repeat' first|refine aQ ?_|((conv=>whnf); first|refine ⟨fun h=>?_,fun h=>?_⟩|refine aj ?_)
 conv=>whnf
 refine ae _ (aa (nj _ _) ?_)
 repeat' first|refine aQ ?_|((conv=>whnf); first|refine ⟨fun h=>?_,fun h=>?_⟩|refine aj ?_)
 conv=>whnf
 refine ae _ (aa (rA [gT a.2 b.2,gT a.1 b.1] (ah rfl)) ?_);refine bv ?_
 all_goals exact Ez
open Go Go.Shelf
def AJ:Go.Shelf.Ren:=⟨fun | 6=>353 | 15=>144 | 14=>373 | 28=>219 | 29=>220 | 20=>384 | 21=>385 | 22=>386 | 23=>387 | 24=>388 | 25=>389 | 26=>390 | 27=>391 | 46=>394 | 47=>272 | 48=>273 | 49=>395 | 50=>396 | 57=>398 | n=>n,fun | 22=>354 | 24=>76 | 25=>379 | 3=>3 | 39=>228 | 0=>0 | 53=>280 | 55=>282 | 4=>4 | 46=>274 | 45=>273 | 50=>185 | 5=>5 | 9=>9 | 66=>326 | 70=>330 | 76=>363 | 77=>364 | n=>n,fun | n=>n⟩
theorem NA:Go.Proofs.SlLaysF0.n6 Tryz.prog AJ where
 mixed:=by kernel_rfl
 f6:=⟨Tryz.f353.name,by kernel_rfl,Tryz.func353.trans (ax some aK)⟩
 f14:=⟨Tryz.f373.name,by kernel_rfl,Tryz.func373.trans (ax some aK)⟩
 f15:=Tryz.func144.trans (ax some aK)
 f20:=⟨Tryz.f384.name,by kernel_rfl,Tryz.func384.trans (ax some aK)⟩
 f21:=⟨Tryz.f385.name,by kernel_rfl,Tryz.func385.trans (ax some aK)⟩
 f22:=⟨Tryz.f386.name,by kernel_rfl,Tryz.func386.trans (ax some aK)⟩
 f23:=⟨Tryz.f387.name,by kernel_rfl,Tryz.func387.trans (ax some aK)⟩
 f24:=⟨Tryz.f388.name,by kernel_rfl,Tryz.func388.trans (ax some aK)⟩
 f25:=⟨Tryz.f389.name,by kernel_rfl,Tryz.func389.trans (ax some aK)⟩
 f26:=⟨Tryz.f390.name,by kernel_rfl,Tryz.func390.trans (ax some aK)⟩
 f27:=⟨Tryz.f391.name,by kernel_rfl,Tryz.func391.trans (ax some aK)⟩
 f28:=Tryz.func219.trans (ax some aK)
 f29:=Tryz.func220.trans (ax some aK)
 f46:=⟨Tryz.f394.name,by kernel_rfl,Tryz.func394.trans (ax some aK)⟩
 f47:=Tryz.func272.trans (ax some aK)
 f48:=Tryz.func273.trans (ax some aK)
 f49:=⟨Tryz.f395.name,by kernel_rfl,Tryz.func395.trans (ax some aK)⟩
 f50:=⟨Tryz.f396.name,by kernel_rfl,Tryz.func396.trans (ax some aK)⟩
 f57:=⟨Tryz.f398.name,by kernel_rfl,Tryz.func398.trans (ax some aK)⟩
 t0:=Tryz.underlying0
 a0:=Tryz.isAgg0
 z0:=Tryz.sizeOf0
 v0:=Tryz.zeroValue0
 t3:=Tryz.underlying3
 a3:=Tryz.isAgg3
 z3:=Tryz.sizeOf3
 v3:=Tryz.zeroValue3
 t4:=Tryz.underlying4
 a4:=Tryz.isAgg4
 z4:=Tryz.sizeOf4
 v4:=Tryz.zeroValue4
 t5:=Tryz.underlying5
 a5:=Tryz.isAgg5
 z5:=Tryz.sizeOf5
 v5:=Tryz.zeroValue5
 t9:=Tryz.underlying9
 a9:=Tryz.isAgg9
 z9:=Tryz.sizeOf9
 v9:=Tryz.zeroValue9
 t22:=Tryz.underlying354
 a22:=Tryz.isAgg354
 z22:=Tryz.sizeOf354
 v22:=Tryz.zeroValue354
 t25:=Tryz.underlying379
 a25:=Tryz.isAgg379
 z25:=Tryz.sizeOf379
 v25:=Tryz.zeroValue379
 t39:=Tryz.underlying228
 a39:=Tryz.isAgg228
 z39:=Tryz.sizeOf228
 v39:=Tryz.zeroValue228
 t45:=Tryz.underlying273
 a45:=Tryz.isAgg273
 z45:=Tryz.sizeOf273
 v45:=Tryz.zeroValue273
 t46:=Tryz.underlying274
 a46:=Tryz.isAgg274
 z46:=Tryz.sizeOf274
 v46:=Tryz.zeroValue274
 t50:=Tryz.underlying185
 a50:=Tryz.isAgg185
 z50:=Tryz.sizeOf185
 v50:=Tryz.zeroValue185
 t53:=Tryz.underlying280
 a53:=Tryz.isAgg280
 z53:=Tryz.sizeOf280
 v53:=Tryz.zeroValue280
 t55:=Tryz.underlying282
 a55:=Tryz.isAgg282
 z55:=Tryz.sizeOf282
 v55:=Tryz.zeroValue282
 t66:=Tryz.underlying326
 a66:=Tryz.isAgg326
 z66:=Tryz.sizeOf326
 v66:=Tryz.zeroValue326
 t70:=Tryz.underlying330
 a70:=Tryz.isAgg330
 z70:=Tryz.sizeOf330
 v70:=Tryz.zeroValue330
 t76:=Tryz.underlying363
 a76:=Tryz.isAgg363
 z76:=Tryz.sizeOf363
 v76:=Tryz.zeroValue363
 t77:=Tryz.underlying364
 a77:=Tryz.isAgg364
 z77:=Tryz.sizeOf364
 v77:=Tryz.zeroValue364
open Go Go.AI
open Go.RowKit (Below)
set_option maxRecDepth 10000
def HR (a b:Int×Int):Bool:=decide (a.2<b.2)||(decide (a.2=b.2)&&decide (a.1<b.1))
theorem zb (a b:Int×Int):ltOf cmpC a b=HR a b:=by
 unfold ltOf HR cmpC;rw [e7];simp only [O2,gT,cu,al,aO];grind
theorem Xs:Sort.SWO (ltOf cmpC) where
 irrefl x:=by rw [zb]; simp [HR]
 trans x y z h1 h2:=by rw [zb] at *; simp only [HR,cu,al,aO] at *; omega
 ntrans x y z h1 h2:=by
  grind [zb,HR,Bool.or_eq_false_iff,Bool.and_eq_false_iff,decide_eq_false_iff_not]
theorem Qx {a b:Int×Int} (h1:HR a b=false) (h2:HR b a=false):a=b:=by
 grind [HR,Bool.or_eq_false_iff,Bool.and_eq_false_iff,decide_eq_false_iff_not,Prod.ext]
def II (l:List (Int×Int)):List (Int×Int):=l.mergeSort fun a b => !HR b a
theorem ss:∀ {l k:List (Int×Int)},l.Perm k->l.Pairwise (fun a b=>HR b a=false)->k.Pairwise (fun a b=>HR b a=false)->l=k
 | [],k,c,_,_=>(List.nil_perm.1 c).symm
 | a::l,[],c,_,_=>by have:=c.length_eq; simp at this
 | a::l,b::k,c,h1,h2=>by
  obtain ⟨p1,p2⟩:=tP.1 h1;obtain ⟨i,j⟩:=tP.1 h2
  have d:a=b:=by
   have f:a∈b::k:=c.mem_iff.1 aW;have e:b∈a::l:=c.mem_iff.2 aW;rcases bC.1 f with h | f
   ·exact h
   rcases bC.1 e with h | e
   ·exact h.symm
   exact Qx (i a f) (p1 b e)
  subst d;rw [ss ((List.perm_cons a).1 c) p2 j]
theorem IH (l:List (Int×Int)):(II l).Pairwise fun a b=>HR b a=false:=by
 have h:=List.pairwise_mergeSort (le:=fun a b => !HR b a) (fun a b c h1 h2=>by
  grind [Bool.not_eq_true',HR,Bool.or_eq_false_iff,Bool.and_eq_false_iff,decide_eq_false_iff_not]) (fun a b=>by
  simp only [cu,c8];grind [HR,Bool.or_eq_false_iff,Bool.and_eq_false_iff,decide_eq_false_iff_not]) l
 exact h.imp fun h=>by simpa using h
theorem Xf {l k:List (Int×Int)} (c:k.Perm l) (h:k.Pairwise fun a b=>HR b a=false):k=II l:=
 ss (c.trans (List.mergeSort_perm l _).symm) h (IH l)
theorem ZD {P:Program} {b o:Nat} {n:Int} (h:gu P b o=some (.int .i64 n)):False:=by
 simp only [gu] at h;grind
theorem ZC {P:Program} {w:World} (h:(gu P).sub w) {b:Nat} (a:w.heap.size<=b) (o:Nat):gu P b o=none:=by
 cases c:gu P b o with
 | none=>rfl
 | some v=>have:=h.cell b o v c; simp [World.cell?,oi a] at this
theorem Vf (l:List (Int×Int)) (hl:l.length<=1000000) {m:d5} {w:World} {v:Value} (hm:m.sub w) (c:(gu Tryz.prog).le m) (hv:RD m (.clo 354 [.ref [.mapv (j8 (iG l))]]) v) :
  Calls Tryz.prog 352 #[v] w fun e w'=>∃ p:List (Int×Int),p.Perm l/\∃ u m',e = .returned u/\RD m' (Ax p) u/\m.le m'/\d5.sub m' w'/\Below w.heap.size w w'/\m.News (w.heap.size<=·) m' w'/\jk w w':=by
 have d:Calls Tryz.prog 372 #[.slice none 0 0,v] w fun e w'=>∃ u,e = .returned u/\∃ p:List (Int×Int),p.Perm l/\∃ m',RD m' (Ax p) u/\m.le m'/\d5.sub m' w'/\Below w.heap.size w w'/\m.News (w.heap.size<=·) m' w'/\jk w w':=by
  have h:=(Vh l hl).runs m w [.slice none 0 0,v] hm c rfl (fun i a u h1 h2=>by
   match i,h1,h2 with
   | 0,h1,h2=>cases h1; cases h2; exact .sl _ _ _ _ _ _ (by intro k hk; cases hk) (fun _=>rfl) rfl (ba _) dc dc 0 0 am (fun _ _=>Go.undef) dc dc
   | 1,h1,h2=>grind)
  refine wn h ?_;rintro e w' ⟨r,⟨p,b,rfl⟩,u,m',h1,h2⟩;exact ⟨u,h1,p,b,m',h2⟩
 go_enter Tryz.func352,Tryz.ntmps352
 go_wp2_with (go_at_call 372; refine d.mono ?_; rintro e w' ⟨u,rfl,p,b,m',h1⟩)
 go_ret
 exact ⟨p,b,u,m',rfl,h1⟩
theorem abc (x:Int×Int) (j:Nat) (hj:j<2):∃ n,(oC c2 x)[j]! = .int .i64 n/\(fg x)[j]?=some (.int .i64 n):=by
 match j,hj with
 | 0,_=>exact ⟨x.1,rfl,rfl⟩
 | 1,_=>exact ⟨x.2,rfl,rfl⟩
theorem Ve (l:List (Int×Int)) (blk off cap:Nat) (w:World) (a:∀ (i:Nat) (x:Int×Int) (j:Nat),l[i]?=some x->j<2->w.cell? ⟨blk,off+(i*2+j),none⟩=some ((oC c2 x)[j]!)) (m:eV w blk) (n:l.length<=1000000) (c:(gu Tryz.prog).sub w) (b:∀ o,gu Tryz.prog blk o=none) :
  Calls Tryz.prog 353 #[.slice (some ⟨blk,off,none⟩) l.length cap,.func (.func 322) #[] #[]] w fun e f=>e = .returned (.tuple #[])/\∃ d,Oi c2 2 HR l d blk off w f:=by
 have h:=Tl c2 2 cmpC NA (fun _=>rfl) Tryz.isAgg76 Tryz.sizeOf76 Xs (g:=322) (fun x y=>LA x y) (LA (0,0) (0,0)).enters l blk off cap w a m am c b;refine wn h ?_;rintro e f ⟨h1,d,h2⟩;refine ⟨h1,d,h2.perm,h2.sorted.imp fun {x y} h=>by rw [zb] at h; exact h,h2.cell,h2.other,h2.soft,h2.os,h2.tape,h2.output,h2.size,h2.more⟩
set_option maxHeartbeats 1000000 in
theorem VG (l:List (Int×Int)) (h0:l≠[]) (hl:l.length<=1000000):ar Tryz.prog 323 [.clo 354 [.ref [.mapv (j8 (iG l))]],.fn 322] (Ax (II l)):=by
 refine ⟨YV Tryz.func323 aK rfl,fun m w vs hm hgm hlen hr=>?_⟩
 obtain ⟨v,u0,rfl⟩:∃ v u0,vs=[v,u0]:=by
  match vs,hlen with
  | [v,u0],_=>exact ⟨v,u0,rfl⟩
 have hv:=hr 0 _ v rfl rfl;have hu:=hr 1 _ u0 rfl rfl;have hu0:u0 = .func (.func 322) #[] #[]:=by cases hu; rfl
 subst hu0
 -- the least memory that is read
 obtain ⟨m0,hm0,hg0,hv0,hints⟩:∃ m0:d5,m0.sub w/\(gu Tryz.prog).le m0/\RD m0 (.clo 354 [.ref [.mapv (j8 (iG l))]]) v/\∀ b o n,m0 b o≠some (.int .i64 n):=by
  cases hv with
  | clo _ _ us L hr1=>
   have h1:us.size=1:=by simpa using L.symm
   obtain ⟨p,F⟩:∃ p,us=#[p]:=Array.size_eq_one_iff.1 h1;subst F;have h2:=hr1 0 _ p rfl rfl
   cases h2 with
   | ref cs pb po hc g hg J=>
    have U:=J 0 _ rfl;have h4:=hg 0 _ rfl;generalize g 0=z at U h4
    cases U with
    | mapv xs b es clock hmb H hl' h2' hk hv'=>
     refine ⟨⟨fun M o=>if M=pb/\o=po then some (.map (some b)) else gu Tryz.prog M o,fun M=>if M=b then some (es,clock) else none⟩,⟨fun M o x hx=>?_,fun M x hx=>?_⟩,⟨fun M o x hx=>?_,fun M x hx=>nomatch hx⟩,?_,fun M o n h=>?_⟩
     ·simp only at hx;split at hx
      ·rename_i h;cases hx;rw [h.1,h.2];exact hm.cell pb po _ (by simpa using h4)
      ·exact (hgm.sub hm).cell _ _ _ hx
     ·simp only at hx;split at hx
      ·rename_i h;cases hx;rw [h];exact hm.map b _ hmb
      ·cases hx
     ·simp only;split
      ·rename_i h;have Z:=hgm.cell _ _ _ hx;grind
      ·exact hx
     ·refine .clo _ _ _ rfl fun i a z h5 h6=>?_
      match i,h5,h6 with
      | 0,h5,h6=>
       cases h5; cases h6;refine .ref _ pb po (by simp [AV.isCell]) (fun _ => .map (some b)) (fun i c hi=>?_) (fun i c hi=>?_)
       ·grind
       ·match i,hi with
        | 0,hi=>
         cases hi;refine .mapv _ b es clock (aV rfl) H hl' h2' (fun i x e k q1 q2 P=>?_) (fun i x e k q1 q2 P=>?_)
         ·have Z:=hk i x e k q1 q2 P;obtain ⟨p,p1,rfl⟩:=wy q1;simp only [bD,aB] at P;subst P;rw [Z.keyA];exact vR _ _
         ·have Z:=hv' i x e k q1 q2 P;obtain ⟨p,p1,rfl⟩:=wy q1;simp only [fk,bD,aB] at P;subst P;simp only [iG,aT,aA] at p1;obtain ⟨_,_,rfl⟩:=p1
          have h8:e.val = .bool true:=by
           have Z:RD m (.bool true) e.val:=Z;generalize e.val=z at Z;cases Z; rfl
          rw [h8];exact .bool true
     grind [ZD]
 have hc:=Vf l hl hm0 hg0 hv0
 have hcol:Calls Tryz.prog 352 #[v] w fun e w1=>∃ (p:List (Int×Int)) (f off cap:Nat),p.Perm l/\e = .returned (.slice (some ⟨f,off,none⟩) p.length cap)/\p.length<=cap/\(∀ (i:Nat) (x:Int×Int) (j:Nat),p[i]?=some x->j<2->w1.cell? ⟨f,off+(i*2+j),none⟩=some ((oC c2 x)[j]!))/\eV w1 f/\w.heap.size<=f/\Below w.heap.size w w1/\jk w w1/\(gu Tryz.prog).sub w1:=by
  refine wn hc ?_;rintro e w1 ⟨p,F,u,m',rfl,h1,h2,U,h4,h5,h6⟩
  cases h1 with
  | sl _ _ _ base len cap ho hf L q hsz E f off H g hg J=>
   simp only [ay] at L;subst L
   have N:0<p.length:=by
    rw [F.length_eq];exact sc.2 h0
   have X:=H N;subst X;have hx0:(p.map fg)[0]?=some (fg p[0]):=by simp [ai N]
   have g0:=hg 0 _ 0 _ hx0 rfl;have r0:=J 0 _ 0 _ hx0 rfl
   have A:w.heap.size<=f/\eV w1 f:=by
    rcases h5.cell _ _ _ g0 with h | h
    ·exact absurd (by rw [h,r0.int_eq]) (hints _ _ (p[0]).1)
    ·exact h
   refine ⟨p,f,off,cap,F,rfl,q,fun i x j hx hj=>?_,A.2,A.1,h4,h6,(hg0.trans h2).sub U⟩;have hxi:(p.map fg)[i]?=some (fg x):=by rw [aT,hx]; rfl
   obtain ⟨n,e1,e2⟩:=abc x j hj;have g1:=hg i _ j _ hxi e2;rw [(J i _ j _ hxi e2).int_eq] at g1;rw [e1,<- U.cell _ _ _ g1,d3]
 have Q:=fun (p:List (Int×Int)) (f off cap:Nat) (w1:World) (F:p.Perm l) h hs (D:w.heap.size<=f) hgs=>Ve p f off cap w1 h hs (by rw [F.length_eq]; exact hl) hgs fun o=>ZC (hgm.sub hm) D o
 have hgo:Calls Tryz.prog 323 #[v,.func (.func 322) #[] #[]] w fun e w2=>∃ (w1:World) (p:List (Int×Int)) (f off cap:Nat),p.Perm l/\e = .returned (.slice (some ⟨f,off,none⟩) p.length cap)/\p.length<=cap/\w.heap.size<=f/\Below w.heap.size w w1/\jk w w1/\eV w1 f/\∃ l',Oi c2 2 HR p l' f off w1 w2:=by
  clear hr hlen hc hv hv0
  go_enter Tryz.func323,Tryz.ntmps323
  go_wp2_with (first | (go_at_call 352; refine hcol.mono ?_; rintro e w1 ⟨p,f,off,cap,F,rfl,q,E,y,D,d,t,hgs1⟩) | (go_at_call 353; refine (Q p f off cap _ F E y D hgs1).mono ?_; rintro e w2 ⟨rfl,l',B⟩))
  go_ret
  exact ⟨_,p,f,off,cap,F,rfl,q,D,d,t,y,l',B⟩
 refine wn hgo ?_;rintro e w2 ⟨w1,p,f,off,cap,F,rfl,q,D,d,t,y,l',B⟩;have hl':l'=II l:=Xf (B.perm.trans F) B.sorted;subst hl';have hlen':(II l).length=p.length:=B.perm.length_eq
 have hblt:∀ b o x,m b o=some x->b<w.heap.size:=fun b o x h=>by
  have h1:=hm.cell b o x h;grind [World.cell?]
 have G:∀ b,b<w.heap.size->w2.heap[b]?=w.heap[b]?:=fun b H=>
  (B.other b am (dv H d.size)).trans (d.block b H)
 refine ⟨_,⟨fun b o=>if b=f then w2.cell? ⟨f,o,none⟩ else m b o,m.maps⟩,rfl,?_,⟨fun b o x h=>?_,fun _ _ h=>h⟩,⟨fun b o x h=>?_,fun b x h=>(G b (aX.1 (hm.map b x h)).1).trans (hm.map b x h)⟩,⟨B.os.trans d.os,B.tape.trans d.tape,B.output.trans d.output,bH d.size B.size,fun b H=>G b H⟩,⟨fun b o x h=>?_,fun b x h => .inl h⟩,t.trans B.more⟩
 ·have hget:∀ (i:Nat) (r:List AV) (j:Nat) (c:AV),((II l).map fg)[i]?=some r->r[j]?=some c->∃ n,c = .int .i64 n/\w2.cell? ⟨f,off+i*2+j,none⟩=some (.int .i64 n):=fun i r j c h1 h2=>by
   rw [aT,aA] at h1;obtain ⟨x,hx,rfl⟩:=h1;have hj:j<2:=by have:=(aq.1 h2).1; simpa [fg] using this
   obtain ⟨n,e1,e2⟩:=abc x j hj;rw [h2] at e2;cases e2;exact ⟨n,rfl,by rw [d3,B.cell i x j hx hj,e1]⟩
  refine .sl _ _ _ _ _ _ (by intro k hk; cases hk) (by intro hk; cases hk) (by simpa using hlen') q (fun r hr=>?_) (fun r hr c hc=>?_) f off (fun _=>rfl) (fun i j=>(w2.cell? ⟨f,off+i*2+j,none⟩).getD Go.undef) (fun i r j c h1 h2=>?_) (fun i r j c h1 h2=>?_)
  ·obtain ⟨x,_,rfl⟩:=bp.1 hr; rfl
  ·obtain ⟨x,_,rfl⟩:=bp.1 hr;simp only [fg,bC,yL,or_false] at hc;rcases hc with rfl | rfl <;> rfl
  ·grind
  ·obtain ⟨n,rfl,U⟩:=hget i r j c h1 h2;rw [U];exact .int _ _
 ·grind
 ·simp only at h;split at h
  ·grind
  ·have:=hblt b o x h;have h1:=hm.cell b o x h;grind [World.cell?]
 ·simp only at h;split at h
  ·rename_i H; exact .inr ⟨by omega,by rw [H]; exact B.soft⟩
  ·exact .inl h
open Go Go.AI
set_option maxRecDepth 10000
def cT (n a b:Int):Bool:=decide (a<=n)&&decide (n<=b)
def d7 (o:Nat->Int):List AV:=[.int .i64 (o 0),.int .i64 (o 1),.int .i64 (o 2),.int .i64 (o 3),.int .i64 (o 4),.int .i64 (o 5),.int .i64 (o 6)]
def MJ (o:Nat->Int) (t:Int):List AV:=[.int .i64 (o 0),.int .i64 (o 1),.int .i64 (o 2),.int .i64 (o 3),.int .i64 (o 4),.int .i64 (o 5),.int .i64 (o 6),.int .i64 t]
def th (o:Nat->Int):Bool:=cT (o 0) 20 2000&&decide ((o 0).tmod 2=0)&&cT (o 1) 0 (cm (o 0 - 1))&&(cT (o 2) 0 23999&&cT (o 3) 0 23999&&decide (o 2<o 3))&&cT (o 4) 0 47999&&cT (o 5) (-2000) 2000&&cT (o 6) 0 10
def US (n c:Int):Int:=(cm (n.tmod c+c)).tmod c
def rowW (o:Nat->Int) (t:Int):Int:=cm (o 2+cm ((cm (cm (cm (o 3 - o 2)*2)*min (US (cm (t+o 1)) (o 0)) (cm (o 0 - US (cm (t+o 1)) (o 0))))).tdiv (o 0)))
def Jp (o:Nat->Int) (t:Int):Int:=US (cm (o 4+cm (o 5*t))) 48000
def kV (o:Nat->Int) (t:Int):Int×Int:=(cm ((Jp o t).tdiv 1000),cm ((rowW o t).tdiv 1000))
def sS (o:Nat->Int) (t late:Int):Bool:=cT t 0 1000000&&cT late (-10) 10&&th o
theorem LG (n a b:Int):ar Tryz.prog 265 [.int .i64 n,.int .i64 a,.int .i64 b] (.bool (cT n a b)):=by
 refine aM FI Tryz.func265 ?_;intro F d w0 m0 hG c h1 kp
 repeat' first|refine aQ ?_|((conv=>whnf); first|refine ⟨fun h=>?_,fun h=>?_⟩|refine aj ?_)
 all_goals refine Eb ?_
 all_goals (simp_all [cT] <;> omega)
theorem Lv (n c:Int) (a:c≠0):ar Tryz.prog 328 [.int .i64 n,.int .i64 c] (.int .i64 (US n c)):=by
 refine aM E3 Tryz.func328 ?_;intro F d w0 m0 hG b h1 kp
 repeat' first|refine aQ ?_|((conv=>whnf); first|refine aa a ?_|refine ⟨fun h=>?_,fun h=>?_⟩|refine aj ?_)
 all_goals exact Ez
set_option maxHeartbeats 4000000 in
theorem A0 (o:Nat->Int):ar Tryz.prog 199 [.agg (d7 o)] (.bool (th o)):=by
 refine aM Gh Tryz.func199 ?_;intro F b w0 m0 hG a h1 kp
 repeat' first|refine aQ ?_|((conv=>whnf); first|refine ae _ (aa (LG _ _ _) ?_)|refine aa bt ?_|refine ⟨fun h=>?_,fun h=>?_⟩|refine aj ?_)
 all_goals refine Eb ?_
 all_goals (dsimp only [th,cT,cm]; rw [e7]; simp only [cT,al,Ch,aO,gB,Nl,Jw,bne_iff_ne,bne_eq_false_iff_eq,c8,iv,br,aby] at *; generalize IntKind.i64.wrap (o 0 - 1)=q at *; generalize (o 0).tmod 2=r at *; omega)
theorem AY (o:Nat->Int) (t late:Int):ar Tryz.prog 267 [.agg (d7 o),.int .i64 t,.int .i64 late] (.tup [.agg (MJ o (cm (t - late))),.bool (sS o t late)]):=by
 refine aM FH Tryz.func267 ?_;intro F c w0 m0 hG a h1 kp
 repeat' first|refine aQ ?_|((conv=>whnf); first|refine ae _ (aa (LG _ _ _) ?_)|refine ae _ (aa (A0 o) ?_)|refine ⟨fun h=>?_,fun h=>?_⟩|refine aj ?_)
 all_goals refine Ends.mk (aj rfl) (az (ax (fun b=>AV.tup [.agg (MJ o (cm (t - late))),.bool b]) ?_))
 all_goals simp only [sS, *,bG,cH,bE,bN]
theorem VJ (o:Nat->Int) (t:Int) (a:o 0≠0):ar Tryz.prog 309 [.agg (MJ o t)] (.int .i64 (rowW o t)):=by
 refine aM Fh Tryz.func309 ?_;intro F c w0 m0 hG b h1 kp
 repeat' first|refine aQ ?_|((conv=>whnf); first|refine ae _ (aa (Lv _ _ a) ?_)|refine aa a ?_|refine ⟨fun h=>?_,fun h=>?_⟩|refine aj ?_)
 all_goals exact Ez
theorem VI (o:Nat->Int) (t:Int):ar Tryz.prog 308 [.agg (MJ o t)] (.int .i64 (Jp o t)):=by
 refine aM Fi Tryz.func308 ?_;intro F b w0 m0 hG a h1 kp
 repeat' first|refine aQ ?_|((conv=>whnf); first|refine ae _ (aa (Lv _ _ bt) ?_)|refine ⟨fun h=>?_,fun h=>?_⟩|refine aj ?_)
 all_goals exact Ez
theorem LB (o:Nat->Int) (t:Int) (a:o 0≠0):ar Tryz.prog 268 [.agg (MJ o t)] (.agg (fg (kV o t))):=by
 refine aM FG Tryz.func268 ?_;intro F c w0 m0 hG b h1 kp
 repeat' first|refine aQ ?_|((conv=>whnf); first|refine ae _ (aa (VI o t) ?_)|refine ae _ (aa (VJ o t a) ?_)|refine aa bt ?_|refine ⟨fun h=>?_,fun h=>?_⟩|refine aj ?_)
 all_goals exact Ez
theorem Xg {o:Nat->Int} {t late:Int} (h:sS o t late=true):o 0≠0:=by
 simp only [sS,th,cT,al,aO] at h; omega
open Go Go.AI
set_option maxRecDepth 10000
theorem VH (o:Nat->Int) (t:Int):ar Tryz.prog 321 [.agg (d7 o),.int .i64 t] (.clo 351 [.ref (d7 o),.ref [.int .i64 t]]):=dP E9 Tryz.func321
def aaG (o:Nat->Int) (x:Int):Array Value:=#[.agg #[.int .i64 (o 0),.int .i64 (o 1),.int .i64 (o 2),.int .i64 (o 3),.int .i64 (o 4),.int .i64 (o 5),.int .i64 (o 6),.int .i64 x]]
def sj (o:Nat->Int) (t:Int):List Int:=(List.range (2*o 6+1).toNat).map fun (i:Nat)=>cm (t - ((i:Int) - o 6))
theorem Vc (o:Nat->Int) (t:Int) (b:0<=o 6) (h1:o 6<=10):L4 Tryz.prog (aaG o) 351 [.ref (d7 o),.ref [.int .i64 t]] (sj o t):=by
 refine L4.of af vm Tryz.func351 rfl aK bj aK (ah rfl) rfl (fun l=>by kernel_rfl) ?_;intro F n m y J Jx hY
 refine YP.loop (X:=Nat) (fun i=>((false,i),⟨(4,.int .i64 ((i:Int) - o 6))::params 0 (.lit (.func (.yield y) #[] #[])::[.ref (d7 o),.ref [.int .i64 t]]),[]⟩)) (fun i=>i<=(2*o 6+1).toNat) (fun i=>(2*o 6+1).toNat - i) 0 (aZ _) rfl
  (St.le.of ?_ ?_) (fun i hi=>?_)
 ·refine aa (ax (fun z=>some (AV.int .i64 z)) ((a6 am am).trans am)) ?_;exact RF
 ·exact trivial
 ·refine fB (keep:=vm) hY af _ _ _ _ aK aK ?_;refine aa (fun h=>?_) (fun h=>?_)
  ·have a:i<(2*o 6+1).toNat:=by have:=aF h; omega
   refine aa rfl (ae (cm (t - ((i:Int) - o 6))) (aa ?_ (aa rfl (aa ?_ ?_))))
   ·simp [sj,aT,sd a]
   ·refine cZ ?_;refine ae (i+1) (aa a (aa am (aa rfl (St.le.of ?_ trivial))));refine aa (ax (fun z=>some (AV.int .i64 z)) ((a6 am am).trans am)) ?_;exact RF
   ·refine cY ?_;exact iL.mk (aj rfl) (bw rfl)
  ·refine iL.mk (bw rfl) (aj ?_);grind [sj,of_decide_eq_false]
theorem VF (rows:List (List AV)):ar Tryz.prog 324 [.mapv rows] (.clo 354 [.ref [.mapv rows]]):=dP E7 Tryz.func324
open Go Go.AI
set_option maxRecDepth 10000
def ql (l:List (Int×Int)) (x:Int×Int):List (Int×Int):=if x∈l then l else l++[x]
def kA (o:Nat->Int) (pre:List Int):List (Int×Int):=pre.foldl (fun l x=>ql l (kV o x)) []
theorem xP (o:Nat->Int) (pre:List Int) (x:Int):kA o (pre++[x])=ql (kA o pre) (kV o x):=by simp [kA,cJ]
theorem Z7 {x y:Int×Int} (h:c2 x=c2 y):x=y:=by
 simp only [c2,gG,tH] at h;exact Prod.ext h.1 h.2
theorem zm (x:Int×Int):∀ l:List (Int×Int),iM (c2 x) (.bool true) (iG l)=iG (ql l x)
 | []=>rfl
 | y::r=>by
  have b:=zm x r;show iM (c2 x) (.bool true) ((c2 y,.bool true)::iG r)=_;rw [iM];by_cases h:c2 y=c2 x
  ·rw [aV h];have:=Z7 h;subst this;rw [ql,aV aW]; rfl
  ·rw [aY h,b];have a:x≠y:=fun e=>h (by rw [e]);unfold ql;by_cases hx:x∈r
   ·rw [aV hx,aV (aS _ hx)]; rfl
   ·rw [aY hx,aY (by simp [a,hx])]; rfl
theorem zZ (o:Nat->Int) (pre:List Int):(kA o pre).length<=pre.length:=by
 suffices h:∀ (l:List (Int×Int)),(pre.foldl (fun l x=>ql l (kV o x)) l).length<=l.length+pre.length by simpa [kA] using h []
 induction pre with
 | nil=>intro l; simp
 | cons x r a=>
  intro l;have:=a (ql l (kV o x));have h2:(ql l (kV o x)).length<=l.length+1:=by unfold ql; split <;> simp
  simp only [rG,bu];omega
theorem Xv (l:List (Int×Int)) (x:Int×Int):ql l x≠[]:=by
 unfold ql;split
 ·rename_i h; intro e; rw [e] at h; cases h
 ·simp
theorem Av (o:Nat->Int) (t:Int):(sj o t).length=(2*o 6+1).toNat:=by simp [sj]
theorem Qz (o:Nat->Int) (t:Int) (a:0<=o 6):kA o (sj o t)≠[]:=by
 have hl:(sj o t).length≠0:=by rw [Av]; omega
 rcases List.eq_nil_or_concat (sj o t) with h | ⟨l,x,h⟩
 ·rw [h] at hl; exact absurd rfl hl
 ·rw [h,List.concat_eq_append,xP]; exact Xv _ _
theorem Zq (o:Nat->Int) (m:d5) (x:Int) (i:Nat) (c:AV) (v:Value) (h1:[AV.agg (MJ o x)][i]?=some c) (h2:(aaG o x)[i]?=some v):RD m c v:=by
 match i,h1,h2 with
 | 0,h1,h2=>cases h1; cases h2; exact vR m [o 0,o 1,o 2,o 3,o 4,o 5,o 6,x]
def nc (o:Nat->Int) (t:Int):List (Int×Int):=II (kA o (sj o t))
set_option maxHeartbeats 4000000 in
theorem VN (o:Nat->Int) (t:Int) (h:sS o t 0=true):ar Tryz.prog 297 [.agg (d7 o),.int .i64 t] (.tup [Ax (nc o t),.int .i64 0]):=by
 have a:=AY o t 0;rw [h] at a;have c:=Xg h;have e:0<=o 6/\o 6<=10:=by simp only [sS,th,cT,al,aO] at h; omega
 refine aM mA Tryz.func297 ?_;intro F l w0 m0 hG j h1 kp
 repeat' first|refine aQ ?_|((conv=>whnf); first|refine ae _ (aa (a) ?_)|refine ae _ (aa (VH o t) ?_)|refine fun b=>?_|refine ⟨fun h=>?_,fun h=>?_⟩|refine aj ?_)
 refine ⟨xq hG h1 (α:=Int) (fun x=>[.agg (MJ o x)]) (f:=351) (cap:=[.ref (d7 o),.ref [.int .i64 t]]) (nx:=fun p x=>∃ r,sj o t=p++x::r) (fin:=fun p=>p=sj o t) rfl (vZ (Vc o t e.1 e.2) (fun _=>rfl) (Zq o)) (fun _=>rfl)
  (fun pre=>[(8,.loc 8 0),(xk 19,.me .ents 19 b (j8 (iG (kA o pre))))]) [8,xk 19] (fun _=>rfl) (fun _=>[(8,[.lit (.map (some b))])]) (St.le.of ?_ ?_) aK bt ?_ ?_⟩
 ·exact RF
 ·exact RF
 ·intro m i m' hG _ _ pre x hx
  have hlen:∀ p∈iG (kA o pre),p.1.length=2:=fun p d=>by
   obtain ⟨q,_,rfl⟩:=bp.1 d; rfl
  refine aI.out (aI.reg hG af mA aK ?_)
  conv=>whnf
  refine aa rfl (aa (St.le.of ?_ ?_) ?_)
  ·exact RF
  ·exact RF
  ·refine aI.out ?_
   repeat' first|refine QE [] rfl hG af (.mk:KP mA) ?_|((conv=>whnf); first|refine cZ ?_|refine cY ?_|refine ed ?_|refine ae _ (aa (LB o x c) ?_)|refine ae 19 (ae (iG (kA o pre)) (ae (c2 (kV o x)) (aa (aa rfl (aa rfl (aa rfl hlen))) ?_)))|refine aa (fun h=>?_) (fun h=>?_)|refine aj ?_)
   refine St.le.of ?_ ?_
   ·refine aa rfl (aa (ax (fun z=>some (AV.me .ents 19 b (j8 z))) ?_) trivial);rw [xP];exact zm _ _
   ·exact RF
 ·intro p d;subst d
  conv=>whnf
  refine Oj 19 8 (b:=b) (rows:=j8 (iG (kA o (sj o t)))) rfl rfl ?_
  repeat' first|refine aQ ?_|((conv=>whnf); first|refine ae _ (aa (VF _) ?_)|refine ae _ (aa (VG (kA o (sj o t)) (Qz o t e.1) (bH (zZ _ _) (by rw [Av]; omega))) ?_)|refine ⟨fun h=>?_,fun h=>?_⟩|refine aj ?_)
  exact Ends.mk (aj rfl) (az rfl)
open Go Go.AI
set_option maxRecDepth 10000
def aH (c n:Int):Int:=if c<0 then (cm (0 - cm (c+1))).tmod n else c.tmod n
theorem LH (c n:Int) (a:n≠0):ar Tryz.prog 189 [.int .i64 c,.int .i64 n] (.int .i64 (aH c n)):=by
 refine aM Gq Tryz.func189 ?_;intro F d w0 m0 hG b h1 kp
 repeat' first|refine aQ ?_|((conv=>whnf); first|refine aa a ?_|refine ⟨fun h=>?_,fun h=>?_⟩|refine aj ?_)
 all_goals refine Ei ?_
 all_goals (simp_all [aH,cm] <;> omega)
def arL (n c:Int):Int:=if n.tmod c<0 then cm (n.tmod c+c) else n.tmod c
theorem VU (o:Nat->Int) (t:Int) (h:sS o t 0=false):ar Tryz.prog 297 [.agg (d7 o),.int .i64 t] (.tup [.sl .no 2 [],.int .i64 70]):=by
 have a:=AY o t 0;rw [h] at a;refine aM mA Tryz.func297 ?_;intro F c w0 m0 hG b h1 kp;refine bv ?_
 all_goals exact Ez
def hU (x:Nat->Int):Nat->Int
 | 0=>cm (2*cm (10+aH (x 0) 90))
 | 1=>aH (x 1) (cm (2*cm (10+aH (x 0) 90)))
 | 2=>aH (x 2) 10000
 | 3=>cm (cm (aH (x 2) 10000+4000)+aH (x 3) 10000)
 | 4=>aH (x 4) 48000
 | 5=>cm (aH (x 5) 1601 - 800)
 | _=>aH (x 6) 4
theorem VS (x:Nat->Int) (a:cm (2*cm (10+aH (x 0) 90))≠0):ar Tryz.prog 117 [.agg (d7 x)] (.agg (d7 (hU x))):=by
 refine aM Hk Tryz.func117 ?_;intro F c w0 m0 hG b h1 kp
 repeat' first|refine aQ ?_|((conv=>whnf); first|refine ae _ (aa (LH _ _ a) ?_)|refine ae _ (aa (LH _ _ bt) ?_)|refine aa (qq bt) ?_|refine ⟨fun h=>?_,fun h=>?_⟩|refine aj ?_)
 all_goals exact Ez
open Go Go.AI
set_option maxRecDepth 10000
def n3 (z:Int):Prop := -9223372036854775808<=z/\z<=9223372036854775807
theorem bO {c n:Int} (b:n3 c) (a:0<n):0<=aH c n/\aH c n<n:=by
 obtain ⟨h1,h2⟩:=b;unfold aH;split
 ·rename_i h;rw [a6 (n:=c+1) am am,a6 am am];exact ⟨mL _ am,fe _ a⟩
 ·exact ⟨mL _ am,fe _ a⟩
structure PV (o:Nat->Int):Prop where
 p1:20<=o 0
 p2:o 0<=2000
 ev:o 0 % 2=0
 h1:0<=o 1
 h2:o 1<=o 0 - 1
 l1:0<=o 2
 l2:o 2<o 3
 l3:o 3<=23999
 n1:0<=o 4
 n2:o 4<=47999
 t1:-2000<=o 5
 t2:o 5<=2000
 s1:0<=o 6
 s2:o 6<=10
theorem iY (o:Nat->Int):th o=true↔PV o:=by
 have hm:(o 0).tmod 2=0↔o 0 % 2=0:=by
  rw [<- Int.dvd_iff_emod_eq_zero,<- Int.dvd_iff_tmod_eq_zero]
 simp only [th,cT,al,aO,hm];constructor
 ·rintro ⟨⟨⟨⟨⟨⟨h1,h2⟩,p⟩,r⟩,u⟩,q⟩,t⟩;rw [a6 am am] at p;exact ⟨by omega,by omega,by omega,by omega,by omega,by omega,by omega,by omega,by omega,by omega,by omega,by omega,by omega,by omega⟩
 ·rintro ⟨a,b,c,d,e,f,g,h,i,j,k,l,m,n⟩;grind [a6]
theorem Xr {x:Nat->Int} (h:∀ i,n3 (x i)):PV (hU x)/\(hU x 0<=198/\hU x 3>=hU x 2+4000/\hU x 6<=3/\-800<=hU x 5/\hU x 5<=800):=by
 have a0:=bO (h 0) (n:=90) am;have a2:=bO (h 2) (n:=10000) am;have a3:=bO (h 3) (n:=10000) am;have a4:=bO (h 4) (n:=48000) am;have a5:=bO (h 5) (n:=1601) am;have m:=bO (h 6) (n:=4) am
 have a:hU x 0=2*(10+aH (x 0) 90):=by
  rw [show hU x 0=cm (2*cm (10+aH (x 0) 90)) from rfl];rw [a6 (n:=10+aH (x 0) 90) am am,a6 am am]
 have e:=bO (h 1) (n:=hU x 0) am;have c:hU x 1=aH (x 1) (hU x 0):=rfl;have l:hU x 2=aH (x 2) 10000:=rfl
 have d:hU x 3=aH (x 2) 10000+4000+aH (x 3) 10000:=by
  show cm (cm (aH (x 2) 10000+4000)+aH (x 3) 10000)=_;rw [a6 (n:=aH (x 2) 10000+4000) am am,a6 am am]
 have j:hU x 4=aH (x 4) 48000:=rfl;have b:hU x 5=aH (x 5) 1601 - 800:=a6 am am;have f:hU x 6=aH (x 6) 4:=rfl;refine ⟨⟨by omega,by omega,by omega,by omega,by omega,by omega,by omega,by omega,by omega,by omega,by omega,by omega,by omega,by omega⟩,by omega,by omega,by omega,by omega,by omega⟩
theorem aaa {o:Nat->Int} (h:PV o) {t late:Int} (h1:0<=t) (h2:t<=1000000) (a:-10<=late) (b:late<=10):sS o t late=true:=by
 simp only [sS,cT,al,aO,(iY o).2 h,tH];omega
theorem ck {α β:Type} {R:α->β->Prop} {a:α} {l:List α} {r:List β} (h:Fa R (a::l) r):∃ b q,r=b::q/\R a b/\Fa R l q:=by
 cases r with
 | nil=>exact h.elim
 | cons b q=>exact ⟨b,q,rfl,h.1,h.2⟩
theorem j5 {α β:Type} {R:α->β->Prop} {r:List β} (h:Fa R ([]:List α) r):r=[]:=by
 cases r with
 | nil=>rfl
 | cons b q=>exact h.elim
theorem Xx:IntKind.i64.min = -9223372036854775808:=by decide
theorem Xy:IntKind.i64.max=9223372036854775807:=by decide
theorem eH {n:Nat} {a:AV} (h:kP (n+1) (.int .i64) a):∃ z,a = .int .i64 z/\n3 z:=by
 obtain ⟨z,h1,h2,b⟩:=h;rw [Xx] at h2; rw [Xy] at b;exact ⟨z,h1,h2,b⟩
open Go Go.AI
theorem EE {n c:Int} (a:0<c) (b:c<=1000000) (h1:-1000000000000<=n) (h2:n<=1000000000000):US n c=n % c:=by
 unfold US;have d:n.tmod c=n - c*n.tdiv c:=by have:=Int.tmod_def n c; exact this
 have e:-c<n.tmod c/\n.tmod c<c:=by
  constructor
  ·have:=Int.lt_tmod_of_pos n a; exact this
  ·exact fe n a
 rw [a6 am am,fG am,d];have:n - c*n.tdiv c+c=n+c*(1 - n.tdiv c):=by rw [Int.mul_sub,Int.mul_one]; omega
 rw [this,Int.add_mul_emod_self_left]
theorem aab {n c:Int} (b:0<c) (a:c<=1000000) (h1:-1000000000000<=n) (h2:n<=1000000000000):arL n c=n % c:=by
 have h:=EE b a h1 h2;unfold arL;have d:-c<n.tmod c/\n.tmod c<c:=⟨Int.lt_tmod_of_pos n b,fe n b⟩;unfold US at h;rw [a6 am am] at h;generalize n.tmod c=q at *;split
 ·rw [a6 am am];rw [Int.tmod_eq_of_lt am am] at h;exact h
 ·have e:(q+c).tmod c=q:=by
   rw [fG am,Int.add_emod_right,Int.emod_eq_of_lt am am]
  rw [e] at h;exact h
def uM (o:Nat->Int) (t:Int):Int:=(t+o 1) % o 0
def vM (o:Nat->Int) (t:Int):Int:=min (uM o t) (o 0 - uM o t)
def P6 (o:Nat->Int) (t:Int):Int:=o 2+(o 3 - o 2)*2*vM o t / o 0
def UG (o:Nat->Int) (t:Int):Int:=(o 4+o 5*t) % 48000
section
variable {o:Nat->Int} (h:PV o)
include h
theorem Tc (t:Int):0<=uM o t/\uM o t<o 0:=⟨Bj _ (by have:=h.p1; omega),tR _ (by have:=h.p1; omega)⟩
theorem Ta (t:Int):0<=vM o t/\2*vM o t<=o 0:=by have:=Tc h t; unfold vM; omega
theorem UB (t:Int):0<=(o 3 - o 2)*2*vM o t/\(o 3 - o 2)*2*vM o t<=(o 3 - o 2)*o 0:=by
 have hv:=Ta h t;have:=h.l2;rw [Int.mul_assoc];exact ⟨Int.mul_nonneg am am,Int.mul_le_mul_of_nonneg_left hv.2 am⟩
theorem Zd {t:Int} (h1:-1000<=t) (h2:t<=2000000):rowW o t=P6 o t:=by
 obtain ⟨p1,p2,ev,g1,g2,l1,l2,l3,n1,n2,t1,t2,s1,s2⟩:=h;have h:PV o:=⟨p1,p2,ev,g1,g2,l1,l2,l3,n1,n2,t1,t2,s1,s2⟩;have hu:=Tc h t;have hv:=Ta h t;have a:=UB h t;have b:(o 3 - o 2)*o 0<=23999*2000:=Int.mul_le_mul am p2 am am
 have c:US (cm (t+o 1)) (o 0)=uM o t:=by
  rw [a6 am am];exact EE am am am am
 unfold rowW P6
 rw [c,a6 (n:=o 0 - uM o t) am am,show min (uM o t) (o 0 - uM o t)=vM o t from rfl,a6 (n:=o 3 - o 2) am am,a6 (n:=(o 3 - o 2)*2) am am,a6 (n:=(o 3 - o 2)*2*vM o t) am am,
  dW a.1]
 have d:0<=(o 3 - o 2)*2*vM o t / o 0/\(o 3 - o 2)*2*vM o t / o 0<=23999*2000:=
  ⟨Int.ediv_nonneg a.1 am,Int.le_trans (Int.ediv_le_self _ a.1) am⟩
 grind [a6,vM]
theorem O7 {t:Int} (h1:-1000<=t) (h2:t<=2000000):-4000000000<=o 5*t/\o 5*t<=4000000000:=by
 have a:=h.t1;have b:=h.t2;constructor
 ·by_cases c:0<=t
  ·have:=Wj a c; omega
  ·have:=Wi b (show t<=0 by omega); omega
 ·by_cases c:0<=t
  ·have:=Wj b c; omega
  ·have:=Wi a (show t<=0 by omega); omega
theorem Z5 {t:Int} (h1:-1000<=t) (h2:t<=2000000):Jp o t=UG o t:=by
 have hm:=O7 h h1 h2;have a:=h.n1;have b:=h.n2;grind [Jp,UG,a6,EE]
theorem WZ (t:Int):o 2<=P6 o t/\P6 o t<=o 3:=by
 have a:=UB h t;have p:=h.p1;unfold P6;have h1:0<=(o 3 - o 2)*2*vM o t / o 0:=Int.ediv_nonneg a.1 am;have h2:(o 3 - o 2)*2*vM o t / o 0<=o 3 - o 2:=Int.ediv_le_of_le_mul am a.2;omega
end
open Go Go.AI
set_option maxRecDepth 10000
theorem T2 (l:List (Int×Int)) (x y:Int×Int):y∈ql l x↔y∈l\/y=x:=by
 unfold ql;grind
theorem MU (l:List (Int×Int)) (x:Int×Int) (h:l.Nodup):(ql l x).Nodup:=by
 grind [ql,List.nodup_append]
theorem YO (o:Nat->Int):∀ (pre:List Int) (l:List (Int×Int)),l.Nodup ->
  (pre.foldl (fun l x=>ql l (kV o x)) l).Nodup/\∀ y,y∈pre.foldl (fun l x=>ql l (kV o x)) l↔y∈l\/∃ x∈pre,kV o x=y
 | [],l,h=>⟨h,by simp⟩
 | x::r,l,h=>by
  have a:=YO o r (ql l (kV o x)) (MU _ _ h);refine ⟨a.1,fun y=>?_⟩;show y∈r.foldl _ _↔_;rw [a.2,T2];grind
theorem MS (o:Nat->Int) (pre:List Int) (y:Int×Int):y∈kA o pre↔∃ x∈pre,kV o x=y:=by
 have:=(YO o pre [] fE).2 y;simpa [kA] using this
theorem CL (l:List (Int×Int)):(II l).Perm l:=List.mergeSort_perm _ _
theorem Q0 (o:Nat->Int) (t:Int) (y:Int×Int):y∈nc o t↔∃ x∈sj o t,kV o x=y:=by
 rw [nc,(CL _).mem_iff,MS]
theorem Q6 (o:Nat->Int) (t:Int):(nc o t).length<=(2*o 6+1).toNat:=by
 rw [nc,(CL _).length_eq,<- Av o t]; exact zZ _ _
theorem XZ {o:Nat->Int} {t d:Int} (b:0<=t/\t<=2000000) (a:0<=o 6/\o 6<=10):d∈sj o t↔t - o 6<=d/\d<=t+o 6:=by
 unfold sj;rw [bp];constructor
 ·rintro ⟨i,hi,rfl⟩;grind [a6]
 ·intro h;refine ⟨(t+o 6 - d).toNat,bz.2 am,?_⟩;grind [a6]
theorem Na {o:Nat->Int} {t:Int} (b:0<=t/\t<=2000000) (a:0<=o 6/\o 6<=10) (y:Int×Int):y∈nc o t↔∃ d,t - o 6<=d/\d<=t+o 6/\kV o d=y:=by
 grind [Q0,XZ]
open Go Go.AI
set_option maxRecDepth 10000
theorem Ls (c n:Int) (a:n≠0):ar Tryz.prog 51 [.int .i64 c,.int .i64 n] (.int .i64 (aH c n)):=by
 refine aM KN Tryz.func51 ?_;intro F d w0 m0 hG b h1 kp
 repeat' first|refine aQ ?_|((conv=>whnf); first|refine aa a ?_|refine ⟨fun h=>?_,fun h=>?_⟩|refine aj ?_)
 all_goals refine Ei ?_
 all_goals (simp_all [aH,cm] <;> omega)
theorem Lq (n a b:Int):ar Tryz.prog 293 [.int .i64 n,.int .i64 a,.int .i64 b] (.bool (cT n a b)):=by
 refine aM Fs Tryz.func293 ?_;intro F d w0 m0 hG c h1 kp
 repeat' first|refine aQ ?_|((conv=>whnf); first|refine ⟨fun h=>?_,fun h=>?_⟩|refine aj ?_)
 all_goals refine Eb ?_
 all_goals (simp_all [cT] <;> omega)
theorem Lo (n a b:Int):ar Tryz.prog 147 [.int .i64 n,.int .i64 a,.int .i64 b] (.bool (cT n a b)):=by
 refine aM GZ Tryz.func147 ?_;intro F d w0 m0 hG c h1 kp
 repeat' first|refine aQ ?_|((conv=>whnf); first|refine ⟨fun h=>?_,fun h=>?_⟩|refine aj ?_)
 all_goals refine Eb ?_
 all_goals (simp_all [cT] <;> omega)
theorem Su (n a b:Int):ar Tryz.prog 281 [.int .i64 n,.int .i64 a,.int .i64 b] (.bool (cT n a b)):=by
 refine aM FB Tryz.func281 ?_;intro F d w0 m0 hG c h1 kp
 repeat' first|refine aQ ?_|((conv=>whnf); first|refine ⟨fun h=>?_,fun h=>?_⟩|refine aj ?_)
 all_goals refine Eb ?_
 all_goals (simp_all [cT] <;> omega)
theorem AX (t:Int):ar Tryz.prog 206 [.int .i64 t] (.bool (cT t 0 1000000)):=by
 refine aM Gb Tryz.func206 ?_;intro F b w0 m0 hG a h1 kp
 repeat' first|refine aQ ?_|((conv=>whnf); first|refine ⟨fun h=>?_,fun h=>?_⟩|refine aj ?_)
 all_goals refine Eb ?_
 all_goals (simp_all [cT] <;> omega)
def iU (n:Int):Int:=if n<cm (3*cm (n.tdiv 3)) then cm (cm (n.tdiv 3) - 1) else cm (n.tdiv 3)
theorem vO (n:Int):ar Tryz.prog 269 [.int .i64 n] (.int .i64 (iU n)):=by
 refine aM FF Tryz.func269 ?_;intro F b w0 m0 hG a h1 kp
 repeat' first|refine aQ ?_|((conv=>whnf); first|refine aa bt ?_|refine ⟨fun h=>?_,fun h=>?_⟩|refine aj ?_)
 ·exact Ends.mk (aj rfl) (az (ax (AV.int .i64) (aV (aF h)).symm))
 ·exact Ends.mk (aj rfl) (az (ax (AV.int .i64) (aY (aR h)).symm))
def qf (a b:Int):Int:=max (cm (a - b)) (cm (b - a))
theorem Vy (a b:Int):ar Tryz.prog 210 [.int .i64 a,.int .i64 b] (.int .i64 (qf a b)):=dP F7 Tryz.func210
def kE (c:Int×Int):Bool:=cT c.1 0 47&&cT c.2 0 23
theorem Lr (c:Int×Int):ar Tryz.prog 207 [.agg (fg c)] (.bool (kE c)):=by
 refine aM Ga Tryz.func207 ?_;intro F b w0 m0 hG a h1 kp
 repeat' first|refine aQ ?_|((conv=>whnf); first|refine ae _ (aa (Lo _ _ _) ?_)|refine ⟨fun h=>?_,fun h=>?_⟩|refine aj ?_)
 all_goals refine Eb ?_
 all_goals simp only [kE, *,bG,cH,bE,bN]
def Ty:List AV:=[.int .i64 90,.fn 310,.int .i64 270,.fn 311,.int .i64 360,.fn 312]
theorem Vt:ar Tryz.prog 270 [] (.agg Ty):=dP FE Tryz.func270
theorem Sr (d:Int):ar Tryz.prog 310 [.int .i64 d] (.int .i64 (cm (100*d))):=dP Fg Tryz.func310
theorem Sq (d:Int):ar Tryz.prog 311 [.int .i64 d] (.int .i64 (cm (100*cm (180 - d)))):=dP Ff Tryz.func311
theorem Sp (d:Int):ar Tryz.prog 312 [.int .i64 d] (.int .i64 (cm (100*cm (d - 360)))):=dP Fe Tryz.func312
def sG (t:Int):Int:=(iU (cm (cm (1440 - t.tmod 1440)*100))).tmod 48000
theorem nC (n:Int):n3 (cm n):=by unfold cm n3; rw [qx]; omega
theorem VA (t:Int) (h:cT t 0 1000000=true):ar Tryz.prog 208 [.int .i64 t] (.tup [.int .i64 (sG t),.int .i64 0]):=by
 have a:=AX t;rw [h] at a;refine aM F9 Tryz.func208 ?_;intro F c w0 m0 hG b h1 kp
 repeat' first|refine aQ ?_|((conv=>whnf); first|refine ae _ (aa (a) ?_)|refine ae _ (aa (vO _) ?_)|refine aa bt ?_|refine ⟨fun h=>?_,fun h=>?_⟩|refine aj ?_)
 all_goals exact Ez
def iA (t:Int):Int:=(cm (t.tdiv 1440)).tmod 360
def jo (t:Int):Int:=if iA t<=90 then cm (12000+iU (cm (100*iA t))) else if iA t<=270 then cm (12000+iU (cm (100*cm (180 - iA t)))) else cm (12000+iU (cm (100*cm (iA t - 360))))
theorem tf {b:Bool} (h:b=true) (h2:b=false):False:=by rw [h] at h2; cases h2
theorem Vz (t:Int) (h:cT t 0 1000000=true):ar Tryz.prog 209 [.int .i64 t] (.tup [.int .i64 (jo t),.int .i64 0]):=by
 have a:=AX t;rw [h] at a;have f:iA t<360:=fe _ bt;refine aM F8 Tryz.func209 ?_;intro F j w0 m0 hG e h1 kp
 repeat' first|refine aQ ?_|((conv=>whnf); first|refine ae _ (aa (a) ?_)|refine ae _ (aa (Vt) ?_)|refine aa bt ?_|refine ⟨fun h=>?_,fun h=>?_⟩|refine aj ?_)
 refine aI.loop (X:=Nat) (fun i=>⟨[(14,.int .i64 i),(13,.agg Ty),(4,.int .i64 (iA t)),(0,.int .i64 t)],[]⟩)
  (fun i=>i<3/\(1<=i->90<iA t)/\(2<=i->270<iA t)) (fun i=>3 - i) 0 ⟨by omega,fun h=>absurd h am,fun h=>absurd h am⟩ (St.le.of ?_ ?_) (fun i hi=>?_)
 ·exact RF
 ·exact RF
 ·obtain ⟨hi,b,d⟩:=hi;obtain rfl | rfl | rfl:i=0\/i=1\/i=2:=by omega
  ·repeat' first|refine aQ ?_|((conv=>whnf); first|refine ae _ (aa (Sr _) ?_)|refine ae _ (aa (vO _) ?_)|refine aa (aF (Eq.refl true)) ?_|refine ⟨fun h=>?_,fun h=>?_⟩|refine aj ?_)
   ·exact Ends.mk (aj rfl) (az (ax (fun z=>AV.tup [.int .i64 z,.int .i64 0]) (aV (aF a8)).symm))
   ·have c:=aR (by assumption:decide (iA t<=90)=false);refine ae 1 (aa ⟨by omega,fun _=>by omega,fun h=>by first | omega | exact absurd h am⟩ (aa am (LE)))
  ·repeat' first|refine aQ ?_|((conv=>whnf); first|refine ae _ (aa (Sq _) ?_)|refine ae _ (aa (vO _) ?_)|refine aa (aF (Eq.refl true)) ?_|refine ⟨fun h=>?_,fun h=>?_⟩|refine aj ?_)
   ·exact Ends.mk (aj rfl) (az (ax (fun z=>AV.tup [.int .i64 z,.int .i64 0]) ((aY (by have:=b am; omega)).trans (aV (aF a8))).symm))
   ·have c:=aR (by assumption:decide (iA t<=270)=false);refine ae 2 (aa ⟨by omega,fun _=>by have:=b am; omega,fun h=>by first | omega | exact absurd h am⟩ (aa am (LE)))
  ·repeat' first|refine aQ ?_|((conv=>whnf); first|refine ae _ (aa (Sp _) ?_)|refine ae _ (aa (vO _) ?_)|refine aa (aF (Eq.refl true)) ?_|refine ⟨fun h=>?_,fun h=>?_⟩|refine aj ?_)
   ·exact Ends.mk (aj rfl) (az (ax (fun z=>AV.tup [.int .i64 z,.int .i64 0]) ((aY (by have:=b am; omega)).trans (aY (by have:=d am; omega))).symm))
   ·have c:=aR (by assumption:decide (iA t<=360)=false);omega
def jO (c:Int×Int) (t:Int):Int:=
 let a:=qf (cm (cm (1000*c.1)+500)) (sG t)
 max (-90) (cm (90 - cm ((cm (75*cm (min a (cm (48000 - a))+qf (cm (cm (1000*c.2)+500)) (jo t)))).tdiv 10000)))
def PE (c:Int×Int) (t:Int):Bool:=decide (jO c t < -20)
theorem Lw (c:Int×Int) (t:Int) (h:cT t 0 1000000=true) (d:kE c=true):ar Tryz.prog 139 [.agg (fg c),.int .i64 t] (.tup [.int .i64 (jO c t),.int .i64 0]):=by
 have b:=AX t;rw [h] at b;have a:=Lr c;rw [d] at a;refine aM G5 Tryz.func139 ?_;intro F f w0 m0 hG e h1 kp
 repeat' first|refine aQ ?_|((conv=>whnf); first|refine ae _ (aa (b) ?_)|refine ae _ (aa (a) ?_)|refine ae _ (aa (VA t h) ?_)|refine ae _ (aa (Vz t h) ?_)|refine ae _ (aa (Vy _ _) ?_)|refine aa bt ?_|refine ⟨fun h=>?_,fun h=>?_⟩|refine aj ?_)
 all_goals exact Ez
theorem VK (c:Int×Int) (t:Int) (h:cT t 0 1000000=true) (a:kE c=true):ar Tryz.prog 300 [.agg (fg c),.int .i64 t] (.bool (PE c t)):=by
 refine aM Fm Tryz.func300 ?_;intro F d w0 m0 hG b h1 kp
 repeat' first|refine aQ ?_|((conv=>whnf); first|refine ae _ (aa (Lw c t h a) ?_)|refine ⟨fun h=>?_,fun h=>?_⟩|refine aj ?_)
 all_goals exact Ez
open Go Go.AI
set_option maxRecDepth 10000
def lV {α:Type} (p:α->Bool):List α->Nat->Int
 | [],_ => -1
 | x::r,k=>if p x then k else lV p r (k+1)
theorem QD {α:Type} {p:α->Bool} {l:List α} {j:Nat} {d:α} (hj:j<l.length):lV p (l.drop j) j=if p (l.getD j d) then (j:Int) else lV p (l.drop (j+1)) (j+1):=by
 rw [dy hj,aG,ai hj]; rfl
theorem I5 {α:Type} (p:α->Bool):∀ (l:List α) (k:Nat),decide (lV p l k>=0)=l.any p
 | [],k=>rfl
 | x::r,k=>by
  simp only [lV,List.any_cons];by_cases h:p x=true
  ·simp [h]
  ·have:=I5 p r (k+1); simp only [yP] at h; simp [h] at this ⊢; exact this
theorem Wk {q:Prop} (h:q:=by
 let w:=fv
 rcases hf with rfl | ⟨rfl,rfl⟩
 all_goals
  refine aM K f ?_;intro F n' w0 m0 hG hro h1 kp;refine bv ?_;refine aI.loop (X:=Nat) (fun j=>⟨[(8,.int .i64 j),(7,.int .i64 (l.map E).length),(0,.sl .no N (l.map E)),(1,w)],[]⟩) (fun j=>j<=l.length/\lV p (l.drop j) j=lV p l 0) (fun j=>l.length - j) 0 ⟨aZ _,by simp⟩ (St.le.of ?_ trivial) (fun j hj=>?_)
  ·exact RF
  ·obtain ⟨hj,hi⟩:=hj;by_cases hl2:j<l.length
   ·have b1:decide ((j:Int)<((l.map E).length:Int))=false->False:=dF (by simp; omega);have hx:(l.map E)[(j:Int).toNat]?=some (E (l.getD j D)):=by simp [ai hl2]
    have hc:=hp (l.getD j D) (by rw [aG,ai hl2]; exact bX hl2);have e:=QD (p:=p) (d:=D) hl2;generalize l.getD j D=x at *;generalize p x=y at *
    repeat' first|refine bv ?_|((conv=>whnf); first|refine ⟨fun h=>?_,fun h=>?_⟩|refine aj ?_)
    ·subst h; rw [aV rfl] at e;exact Ends.mk (aj rfl) (az (ax (AV.int .i64) (e.symm.trans hi)))
    ·subst h; rw [aY dc] at e;refine ae (j+1) (aa ⟨hl2,e.symm.trans hi⟩ (aa am LE))
   ·have b1:decide ((j:Int)<((l.map E).length:Int))=true->False:=dT (by simp; omega);rw [c7 am] at hi;refine bv ?_;exact Ends.mk (aj rfl) (az (ax (AV.int .i64) hi))):q:=h
theorem Y2 {q:Prop} (h:q:=by
 rcases hf with rfl | ⟨rfl,rfl⟩
 all_goals
  refine aM K f ?_;intro F n' w0 m0 hG hro h1 kp;refine bv ?_;exact Ends.mk (aj rfl) (az (ax AV.bool (I5 p l 0)))):q:=h
structure Y3 where
 n:Int
 lo:Int
 hi:Int
deriving DecidableEq
def Nj (x:Y3):List AV:=[.int .i64 x.n,.int .i64 x.lo,.int .i64 x.hi]
structure d6 where
 k:Int
 a:Int
 b:Int
deriving DecidableEq
def gi (x:d6):List AV:=[.int .i64 x.k,.int .i64 x.a,.int .i64 x.b]
def i6 (l:List d6):AV := .sl .no 3 (l.map gi)
def aaJ (x:Int):List AV:=[.int .i64 x]
theorem So (l:List Y3) (p:Y3->Bool) (g:FuncId) (fv:AV) (cap:List AV) (hf:fv = .clo g cap\/(fv = .fn g/\cap=[])) (hl:l.length<=1000000)
  (hp:∀ x∈l,ar Tryz.prog g ((.agg (Nj x))::cap) (.bool (p x))):ar Tryz.prog 315 [.sl .no 3 (l.map Nj),fv] (.int .i64 (lV p l 0)):=by
 let E:=Nj; let D:=(⟨0,0,0⟩:Y3); let K:=Fd; let N:=3; have f:=Tryz.func315; exact Wk
theorem Sw (l:List Y3) (p:Y3->Bool) (g:FuncId) (fv:AV) (cap:List AV) (hf:fv = .clo g cap\/(fv = .fn g/\cap=[])) (hl:l.length<=1000000)
  (hp:∀ x∈l,ar Tryz.prog g ((.agg (Nj x))::cap) (.bool (p x))):ar Tryz.prog 279 [.sl .no 3 (l.map Nj),fv] (.bool (l.any p)):=by
 have I:=So l p g fv cap hf hl hp; let K:=FD; have f:=Tryz.func279; exact Y2
theorem Vs (l:List d6) (p:d6->Bool) (g:FuncId) (fv:AV) (cap:List AV) (hf:fv = .clo g cap\/(fv = .fn g/\cap=[])) (hl:l.length<=1000000)
  (hp:∀ x∈l,ar Tryz.prog g ((.agg (gi x))::cap) (.bool (p x))):ar Tryz.prog 320 [.sl .no 3 (l.map gi),fv] (.int .i64 (lV p l 0)):=by
 let E:=gi; let D:=(⟨0,0,0⟩:d6); let K:=Fb; let N:=3; have f:=Tryz.func320; exact Wk
theorem Vw (l:List d6) (p:d6->Bool) (g:FuncId) (fv:AV) (cap:List AV) (hf:fv = .clo g cap\/(fv = .fn g/\cap=[])) (hl:l.length<=1000000)
  (hp:∀ x∈l,ar Tryz.prog g ((.agg (gi x))::cap) (.bool (p x))):ar Tryz.prog 295 [.sl .no 3 (l.map gi),fv] (.bool (l.any p)):=by
 have I:=Vs l p g fv cap hf hl hp; let K:=Fq; have f:=Tryz.func295; exact Y2
theorem Ss (l:List (Int×Int)) (p:(Int×Int)->Bool) (g:FuncId) (fv:AV) (cap:List AV) (hf:fv = .clo g cap\/(fv = .fn g/\cap=[])) (hl:l.length<=1000000)
  (hp:∀ x∈l,ar Tryz.prog g ((.agg (fg x))::cap) (.bool (p x))):ar Tryz.prog 325 [.sl .no 2 (l.map fg),fv] (.int .i64 (lV p l 0)):=by
 let E:=fg; let D:=((0,0):(Int×Int)); let K:=E6; let N:=2; have f:=Tryz.func325; exact Wk
theorem Vv (l:List (Int×Int)) (p:(Int×Int)->Bool) (g:FuncId) (fv:AV) (cap:List AV) (hf:fv = .clo g cap\/(fv = .fn g/\cap=[])) (hl:l.length<=1000000)
  (hp:∀ x∈l,ar Tryz.prog g ((.agg (fg x))::cap) (.bool (p x))):ar Tryz.prog 298 [.sl .no 2 (l.map fg),fv] (.bool (l.any p)):=by
 have I:=Ss l p g fv cap hf hl hp; let K:=Fo; have f:=Tryz.func298; exact Y2
theorem Sv (x:Y3):ar Tryz.prog 280 [.agg (Nj x)] (.bool (!cT x.n x.lo x.hi)):=by
 refine aM FC Tryz.func280 ?_;intro F b w0 m0 hG a h1 kp
 repeat' first|refine aQ ?_|((conv=>whnf); first|refine ae _ (aa (Su _ _ _) ?_)|refine ⟨fun h=>?_,fun h=>?_⟩|refine aj ?_)
 all_goals exact Ez
theorem ry (l:List Y3) (hl:l.length<=1000000):ar Tryz.prog 234 [.sl .no 3 (l.map Nj)] (.bool (l.all fun x=>cT x.n x.lo x.hi)):=by
 refine aM F0 Tryz.func234 ?_;intro F b w0 m0 hG a h1 kp
 repeat' first|refine aQ ?_|((conv=>whnf); first|refine ae _ (aa (Sw l (fun x => !cT x.n x.lo x.hi) 280 _ [] (bw ⟨rfl,rfl⟩) hl (fun x _=>Sv x)) ?_)|refine ⟨fun h=>?_,fun h=>?_⟩|refine aj ?_)
 all_goals refine Eb ?_
 all_goals (rw [List.all_eq_not_any_not])
def bR (s:Nat->Int):List AV:=[.int .i64 (s 0),.int .i64 (s 1),.int .i64 (s 2),.int .i64 (s 3),.int .i64 (s 4),.int .i64 (s 5),.int .i64 (s 6),.int .i64 (s 7),.int .i64 (s 8),.int .i64 (s 9),.int .i64 (s 10),.int .i64 (s 11),.int .i64 (s 12),.int .i64 (s 13),.int .i64 (s 14),.int .i64 (s 15),.int .i64 (s 16),.int .i64 (s 17),.int .i64 (s 18),.int .i64 (s 19),.int .i64 (s 20)]
def ny (s:Nat->Int):Bool:=((cT (s 0) 0 23&&(cT (s 1) 0 15&&(cT (s 9) 0 4&&(cT (s 10) 1 1000000&&(cT (s 19) 0 60&&cT (s 20) 1 1000))))) &&
 (cT (s 11) 1 1000000&&(cT (s 12) 0 10000&&(cT (s 13) 0 10000&&(cT (s 14) 0 10000&&cT (s 15) 0 10000)))))&&(cT (s 16) 0 10000&&(cT (s 17) 0 10000&&cT (s 18) 1 1000000))&&th (fun i=>s (i+2))
set_option maxHeartbeats 4000000 in
theorem rz (s:Nat->Int):ar Tryz.prog 152 [.agg (bR s)] (.bool (ny s)):=by
 refine aM GV Tryz.func152 ?_;intro F b w0 m0 hG a h1 kp
 repeat' first|refine aQ ?_|((conv=>whnf); first|refine ae _ (aa ((ry [⟨s 0,0,23⟩,⟨s 1,0,15⟩,⟨s 9,0,4⟩,⟨s 10,1,1000000⟩,⟨s 19,0,60⟩,⟨s 20,1,1000⟩] (ah rfl)).sl0) ?_)|refine ae _ (aa ((ry [⟨s 11,1,1000000⟩,⟨s 12,0,10000⟩,⟨s 13,0,10000⟩,⟨s 14,0,10000⟩,⟨s 15,0,10000⟩] (ah rfl)).sl0) ?_)|refine ae _ (aa ((ry [⟨s 16,0,10000⟩,⟨s 17,0,10000⟩,⟨s 18,1,1000000⟩] (ah rfl)).sl0) ?_)|refine ae _ (aa (A0 (fun i=>s (i+2))) ?_)|refine ⟨fun h=>?_,fun h=>?_⟩|refine aj ?_)
 all_goals refine Eb ?_
 all_goals (simp only [qj,SG,cH] at *; simp only [ny, *,bG,cH,bE,bN])
open Go Go.AI
structure Img where
 i:Int
 u:Int
 a:Int
 b:Int
deriving DecidableEq
def Zv (x:Img):List AV:=[.int .i64 x.i,.int .i64 x.u,.int .i64 x.a,.int .i64 x.b]
def CX (l:List Img):AV := .sl .no 4 (l.map Zv)
open Go Go.AI
set_option maxRecDepth 10000
def y4 (y:Nat->Int):List AV:=[.int .i64 (y 0),.int .i64 (y 1),.int .i64 (y 2),.int .i64 (y 3)]
def aaE (x y:Nat->Int) (i:Nat):Int:=match i with
 | 0=>aH 3 24
 | 1=>aH (y 0) 4
 | 2=>hU x 0
 | 3=>hU x 1
 | 4=>hU x 2
 | 5=>hU x 3
 | 6=>hU x 4
 | 7=>hU x 5
 | 8=>hU x 6
 | 9=>aH (y 0) 4
 | 10=>cm (20+aH (y 1) 200)
 | 11=>cm (100+aH (y 1) 2000)
 | 12=>aH (y 2) 12
 | 13=>aH (y 2) 4
 | 14=>cm (2+aH (y 2) 30)
 | 15=>cm (1+aH (y 3) 20)
 | 16=>cm (1+aH (y 3) 9)
 | 17=>cm (1+aH (y 3) 4)
 | 18=>cm (5+aH (y 1) 60)
 | 19=>aH (cm ((y 0).tdiv 4)) 4
 | _=>cm (1+aH (y 2) 9)
theorem abq {q:Prop} (h:q:=by
 refine aM KM Tryz.func52 ?_;intro F n' w0 m0 hG hro h1 kp
 repeat' first|refine aQ ?_|((conv=>whnf); first|refine ae _ (aa (VS x hx) ?_)|refine ae _ (aa (Ls _ _ bt) ?_)|refine aa (show (4:Int)≠0 by decide) ?_|refine aa bt (aa bt ?_)|refine ⟨fun h=>?_,fun h=>?_⟩|refine aj ?_)
 all_goals exact Ez):q:=h
def qF (a b:Int):Bool:=cT b 1 1000000&&cT a 0 (cm (b - 1))
def cA (a b:Int):List AV:=[.int .i64 a,.int .i64 b]
theorem Lt (a b:Int):ar Tryz.prog 251 [.agg (cA a b)] (.bool (qF a b)):=by
 refine aM FN Tryz.func251 ?_;intro F d w0 m0 hG c h1 kp
 repeat' first|refine aQ ?_|((conv=>whnf); first|refine ae _ (aa (Lq _ _ _) ?_)|refine ⟨fun h=>?_,fun h=>?_⟩|refine aj ?_)
 all_goals refine Eb ?_
 all_goals (simp only [qF, *,bG,cH,bE,bN]; try rfl)
def T6 (t a b:Int):Bool:=decide (a<=t)&&decide (t<b)
theorem Lp (a b t:Int):ar Tryz.prog 296 [.agg (cA a b),.int .i64 t] (.bool (T6 t a b)):=by
 refine aM Fp Tryz.func296 ?_;intro F d w0 m0 hG c h1 kp
 repeat' first|refine aQ ?_|((conv=>whnf); first|refine ⟨fun h=>?_,fun h=>?_⟩|refine aj ?_)
 all_goals refine Eb ?_
 all_goals (simp_all [T6] <;> omega)
def OZ (x y:d6):Bool:=decide (x.k=y.k)&&decide (x.a<y.b)&&decide (y.a<x.b)
theorem Vx (x y:d6):ar Tryz.prog 294 [.agg (gi y),.ref (gi x)] (.bool (OZ x y)):=by
 refine aM Fr Tryz.func294 ?_;intro F b w0 m0 hG a h1 kp
 repeat' first|refine aQ ?_|((conv=>whnf); first|refine ⟨fun h=>?_,fun h=>?_⟩|refine aj ?_)
 all_goals refine Eb ?_
 all_goals (simp_all [OZ] <;> (intros; omega))
open Go Go.AI
set_option maxRecDepth 10000
def zI (a:Int) (f:Nat->Int) (n:Nat):List (Int×Int):=(List.range n).map fun (i:Nat)=>(a+i,f i)
def rO (c:Int) (r:Int×List Int) (p:Int×Int):Int×List Int:=(min c (cm (r.1 - p.2)),r.2++[min c (cm (r.1 - p.2))])
def jD (c:Int) (pre:List (Int×Int)):Int×List Int:=pre.foldl (rO c) (c,[])
theorem nJ (c:Int) (pre:List (Int×Int)) (x:Int×Int):jD c (pre++[x])=rO c (jD c pre) x:=by simp [jD,cJ]
theorem tq (c:Int) (pre:List (Int×Int)):(jD c pre).2.length=pre.length:=by
 suffices h:∀ (r:Int×List Int),(pre.foldl (rO c) r).2.length=r.2.length+pre.length by simpa [jD] using h (c,[])
 induction pre with
 | nil=>intro r; simp
 | cons p t a=>intro r; simp [a,rO]; omega
def qA (pre:List (Int×Int)):Int:=pre.foldl (fun n p=>cm (n+p.2)) 0
theorem If (pre:List (Int×Int)) (x:Int×Int):qA (pre++[x])=cm (qA pre+x.2):=by simp [qA,cJ]
open Go Go.AI
set_option maxRecDepth 10000
def abe (s:Nat->Int) (x:d6):Int:=if x.k=1 then s 14 else s 15
def UD (s:Nat->Int) (t:Int) (n:Int) (x:d6):Int:=if T6 t x.a x.b then cm (n+abe s x) else n
def tC (s:Nat->Int) (l:List d6) (t:Int):Int:=l.foldl (UD s t) (s 13)
theorem nM (s:Nat->Int) (l:List d6) (x:d6) (t:Int):tC s (l++[x]) t=UD s t (tC s l t) x:=by simp [tC,cJ]
def iN (s:Nat->Int):Nat->Int:=fun i=>s (i+2)
def abR (s:Nat->Int) (l:List d6) (lit:Bool) (t:Int):Int:=if lit then cm (tC s l t - s 12) else tC s l t
open Go Go.AI
set_option maxRecDepth 10000
def mY (pre:List d6) (x:d6):Bool:=cT x.k 1 2&&qF x.a x.b && !(pre.any (OZ x))
def YG:List d6->List d6->Bool
 | _,[]=>true
 | pre,x::r=>mY pre x&&YG (pre++[x]) r
def jN (l:List d6):Bool:=decide (l.length<=64)&&YG [] l
theorem uB {l:List d6} {i:Nat} (h:i<l.length):YG (l.take i) (l.drop i)=(mY (l.take i) (l.getD i ⟨0,0,0⟩)&&YG (l.take (i+1)) (l.drop (i+1))):=by
 rw [dy h,aG,ai h,eN,ai h]; rfl
set_option maxHeartbeats 4000000 in
theorem VD (l:List d6) (hl:l.length<=1000000):ar Tryz.prog 252 [i6 l] (.bool (jN l)):=by
 refine aM FM Tryz.func252 ?_;intro F n w0 m0 hG m h1 kp
 repeat' first|refine aQ ?_|((conv=>whnf); first|refine ⟨fun h=>?_,fun h=>?_⟩|refine aj ?_)
 ·have e:¬ l.length<=64:=by have:=aF (by assumption:decide (((l.map gi).length:Int)>64)=true); simp at this; omega
  exact Ends.mk (aj rfl) (az (ax AV.bool (by rw [jN,dR e]; rfl)))
 ·have e:l.length<=64:=by have:=aR (by assumption:decide (((l.map gi).length:Int)>64)=false); simp at this; omega
  refine aI.loop (X:=Nat) (fun i=>⟨[(11,.int .i64 i),(10,.int .i64 (l.map gi).length),(9,i6 l),(0,i6 l)],[]⟩)
   (fun i=>i<=l.length/\YG (l.take i) (l.drop i)=YG [] l) (fun i=>l.length - i) 0 ⟨aZ _,rfl⟩ (St.le.of ?_ ?_) (fun i hi=>?_)
  ·exact RF
  ·exact RF
  ·obtain ⟨hi,c⟩:=hi;have hj:decide ((i:Int)<((l.map gi).length:Int))=true->i<l.length:=fun h=>by have:=aF h; simp at this; omega
   obtain ⟨x,d⟩:∃ x,x=l.getD i ⟨0,0,0⟩:=⟨_,rfl⟩;have hx:decide ((i:Int)<((l.map gi).length:Int))=true->(l.map gi)[(i:Int).toNat]?=some [.int .i64 x.k,.int .i64 x.a,.int .i64 x.b]:=fun h=>by have:=hj h; rw [d]; simp [ai this]; rfl
   have hle:(i:Int).toNat<=(l.map gi).length:=by simp; exact hi
   have he:((l.map gi).take (i:Int).toNat).drop 0=(l.take i).map gi:=by simp [Ma]
   have f:=Vw (l.take i) (OZ x) 294 _ [.ref (gi x)] (aj rfl) (by simp; omega) (fun y _=>Vx x y);rw [<- he] at f
   repeat' first|refine aQ ?_|((conv=>whnf); first|refine aa (au i) (ae _ (aa (hx a8) ?_))|refine ae _ (aa (Lq _ _ _) ?_)|refine ae _ (aa (Lt _ _) ?_)|refine ae _ (aa (f) ?_)|refine aa (au i) (aa (aZ _) (aa hle ?_))|refine ⟨fun h=>?_,fun h=>?_⟩|refine aj ?_)
   ·have hl:=hj a8;rw [uB hl,<- d,show mY (l.take i) x=false by simp_all [mY],bE] at c;exact Ends.mk (aj rfl) (az (ax AV.bool (by rw [jN,<- c,bN])))
   ·have hl:=hj a8;rw [uB hl,<- d,show mY (l.take i) x=false by simp_all [mY],bE] at c;exact Ends.mk (aj rfl) (az (ax AV.bool (by rw [jN,<- c,bN])))
   ·have hl:=hj a8;rw [uB hl,<- d,show mY (l.take i) x=false by simp_all [mY],bE] at c;exact Ends.mk (aj rfl) (az (ax AV.bool (by rw [jN,<- c,bN])))
   ·have hl:=hj a8;rw [uB hl,<- d,show mY (l.take i) x=true by simp_all [mY],bG] at c;refine ae (i+1) (aa ⟨hl,c⟩ (aa am (LE)))
   ·have j:l.length<=i:=by have:=aR (by assumption:decide ((i:Int)<((l.map gi).length:Int))=false); simp at this; omega
    rw [c7 j] at c;refine Eb ?_;rw [jN,bP e,<- c]; rfl
def mN (s:Nat->Int) (l:List d6) (a b:Int):Bool:=qF a b&&decide (cm (b - a)<=4320)&&jN l&&ny s
theorem Lz (s:Nat->Int) (l:List d6) (a b:Int) (hl:l.length<=1000000):ar Tryz.prog 173 [.agg (bR s),i6 l,.agg (cA a b)] (.bool (mN s l a b)):=by
 refine aM GG Tryz.func173 ?_;intro F e w0 m0 hG d h1 kp
 repeat' first|refine aQ ?_|((conv=>whnf); first|refine ae _ (aa (Lt _ _) ?_)|refine ae _ (aa (VD l hl) ?_)|refine ae _ (aa (rz s) ?_)|refine ⟨fun h=>?_,fun h=>?_⟩|refine aj ?_)
 all_goals refine Eb ?_
 all_goals (have c:cm (b - a)=IntKind.i64.wrap (b - a):=rfl)
 all_goals (simp only [mN, *,c,bG,cH,bE,bN])
theorem Vu (c:Int×Int) (t:Int) (h:cT t 0 1000000=true) (a:kE c=true):ar Tryz.prog 299 [.agg (fg c),.ref [.int .i64 t]] (.bool (PE c t)):=by
 refine aM Fn Tryz.func299 ?_;intro F d w0 m0 hG b h1 kp
 repeat' first|refine aQ ?_|((conv=>whnf); first|refine ae _ (aa (VK c t h a) ?_)|refine ⟨fun h=>?_,fun h=>?_⟩|refine aj ?_)
 all_goals exact Ez
def DU (o:Nat->Int) (t:Int):Bool:=sS o t 0 && !((nc o t).any fun c=>PE c t)
theorem VT (s:Nat->Int) (t:Int) (h:sS (iN s) t 0=false):ar Tryz.prog 255 [.agg (bR s),.int .i64 t] (.bool (DU (iN s) t)):=by
 have a:=VU (iN s) t h;refine aM vC Tryz.func255 ?_;intro F c w0 m0 hG b h1 kp;refine bv ?_
 all_goals exact Ends.mk (aj rfl) (az (ax AV.bool (by rw [DU,h]; rfl)))
theorem VB (s:Nat->Int) (t:Int) (h:sS (iN s) t 0=true) (e:∀ c∈nc (iN s) t,kE c=true) (f:(nc (iN s) t).length<=1000000):ar Tryz.prog 255 [.agg (bR s),.int .i64 t] (.bool (DU (iN s) t)):=by
 have a:=VN (iN s) t h;have d:cT t 0 1000000=true:=by simp only [sS,al] at h; exact h.1.1
 have b:=Vv (nc (iN s) t) (fun c=>PE c t) 299 _ [.ref [.int .i64 t]] (aj rfl) f (fun c hm=>Vu c t d (e c hm));refine aM vC Tryz.func255 ?_;intro F j w0 m0 hG i h1 kp;refine bv ?_
 all_goals exact Ends.mk (aj rfl) (az (ax AV.bool (by rw [DU,h]; rfl)))
open Go Go.AI
set_option maxRecDepth 10000
theorem UL {o:Nat->Int} (h:PV o) {d:Int} (h1:-1000<=d) (h2:d<=2000000):kE (kV o d)=true:=by
 have e:=WZ h d;have l1:=h.l1;have l3:=h.l3;have b:0<=UG o d/\UG o d<48000:=⟨Bj _ am,tR _ am⟩;have a:cm ((Jp o d).tdiv 1000)=UG o d / 1000:=by rw [Z5 h h1 h2,dW b.1]; exact a6 am am
 have c:cm ((rowW o d).tdiv 1000)=P6 o d / 1000:=by rw [Zd h h1 h2,dW am]; exact a6 am am
 simp only [kE,kV,a,c,cT,al,aO];omega
theorem UF {o:Nat->Int} (h:PV o) {t:Int} (h1:0<=t) (h2:t<=1000000):∀ c∈nc o t,kE c=true:=fun c a=>by
 have s1:=h.s1;have s2:=h.s2;obtain ⟨d,d1,d2,rfl⟩:=(Na ⟨h1,by omega⟩ ⟨s1,s2⟩ c).1 a;exact UL h am am
theorem UY (s:Nat->Int) (t:Int):ar Tryz.prog 255 [.agg (bR s),.int .i64 t] (.bool (DU (iN s) t)):=by
 cases h:sS (iN s) t 0
 ·exact VT s t h
 ·have hv:PV (iN s)/\0<=t/\t<=1000000:=by
   simp only [sS,al] at h;have h2:=h.1.1;simp only [cT,al,aO] at h2;exact ⟨(iY _).1 h.2,h2.1,h2.2⟩
  refine VB s t h (UF hv.1 hv.2.1 hv.2.2) ?_;have:=Q6 (iN s) t;have:=hv.1.s2;omega
theorem Pb:∀ (l pre:List d6),YG pre l=true->∀ x∈l,x.k=1\/x.k=2
 | [],_,_,x,h=>absurd h dc
 | y::r,pre,h,x,hx=>by
  simp only [YG,al] at h;rcases bC.1 hx with rfl | hx
  ·have:=h.1;simp only [mY,cT,al,aO] at this;omega
  ·exact Pb r _ h.2 x hx
theorem VC (s:Nat->Int) (l:List d6) (t:Int) (hl:l.length<=1000) (hk:∀ x∈l,x.k=1\/x.k=2):ar Tryz.prog 254 [.agg (bR s),i6 l,.int .i64 t] (.int .i64 (tC s l t)):=by
 refine aM pM Tryz.func254 ?_;intro F n w0 m0 hG m h1 kp;refine bv ?_
 refine aI.loop (X:=Nat) (fun i=>⟨[(20,.int .i64 i),(19,.int .i64 (l.map gi).length),(18,i6 l),(8,.int .i64 (tC s (l.take i) t)),(7,.loc 7 0),(2,.int .i64 t)],[(7,[.int .i64 0,.int .i64 (s 14),.int .i64 (s 15)])]⟩)
  (fun i=>i<=l.length) (fun i=>l.length - i) 0 (aZ _) (St.le.of ?_ ?_) (fun i hi=>?_)
 ·exact RF
 ·exact RF
 ·have hj:decide ((i:Int)<((l.map gi).length:Int))=true->i<l.length:=fun h=>by have:=aF h; simp at this; omega
  obtain ⟨x,d⟩:∃ x,x=l.getD i ⟨0,0,0⟩:=⟨_,rfl⟩;have hx:decide ((i:Int)<((l.map gi).length:Int))=true->(l.map gi)[(i:Int).toNat]?=some [.int .i64 x.k,.int .i64 x.a,.int .i64 x.b]:=fun h=>by have:=hj h; rw [d]; simp [ai this]; rfl
  have f:decide ((i:Int)<((l.map gi).length:Int))=true->l.take (i+1)=l.take i++[x]:=fun h=>by have:=hj h; rw [d,eN,aG,ai this]; rfl
  have j:decide ((i:Int)<((l.map gi).length:Int))=true->x.k=1\/x.k=2:=fun h=>hk x (by have:=hj h; rw [d,aG,ai this]; exact bX this);obtain ⟨xk,o,p⟩:=x;by_cases e:xk=1\/xk=2
  ·have body:∀ q:Int,q=1\/q=2->xk=q->True:=fun _ _ _=>trivial;rcases e with rfl | rfl
   ·repeat' first|refine aQ ?_|((conv=>whnf); first|refine aa (au i) (ae _ (aa (hx a8) ?_))|refine ae _ (aa (Lp _ _ _) ?_)|refine aa (aF (Eq.refl true)) ?_|refine ⟨fun h=>?_,fun h=>?_⟩|refine aj ?_)
    ·refine ae (i+1) (aa (hj a8) (aa (by have:=hj a8; omega) (St.le.of ?_ ?_)))
     ·refine aa (ax some (bK am)) (aa rfl (aa rfl (aa (ax (fun z=>some (AV.int .i64 z)) ?_) ?_)))
      ·rw [f a8,nM];exact (aV a8).symm
      ·exact RF
     ·exact RF
    ·refine ae (i+1) (aa (hj a8) (aa (by have:=hj a8; omega) (St.le.of ?_ ?_)))
     ·refine aa (ax some (bK am)) (aa rfl (aa rfl (aa (ax (fun z=>some (AV.int .i64 z)) ?_) ?_)))
      ·rw [f a8,nM];exact (aY (fun h=>tf h a8)).symm
      ·exact RF
     ·exact RF
    ·have c:l.length<=i:=by have:=aR (by assumption:decide ((i:Int)<((l.map gi).length:Int))=false); simp at this; omega
     refine Ends.mk (aj rfl) (az ?_);rw [bA c]; rfl
   ·repeat' first|refine aQ ?_|((conv=>whnf); first|refine aa (au i) (ae _ (aa (hx a8) ?_))|refine ae _ (aa (Lp _ _ _) ?_)|refine aa (aF (Eq.refl true)) ?_|refine ⟨fun h=>?_,fun h=>?_⟩|refine aj ?_)
    ·refine ae (i+1) (aa (hj a8) (aa (by have:=hj a8; omega) (St.le.of ?_ ?_)))
     ·refine aa (ax some (bK am)) (aa rfl (aa rfl (aa (ax (fun z=>some (AV.int .i64 z)) ?_) ?_)))
      ·rw [f a8,nM];exact (aV a8).symm
      ·exact RF
     ·exact RF
    ·refine ae (i+1) (aa (hj a8) (aa (by have:=hj a8; omega) (St.le.of ?_ ?_)))
     ·refine aa (ax some (bK am)) (aa rfl (aa rfl (aa (ax (fun z=>some (AV.int .i64 z)) ?_) ?_)))
      ·rw [f a8,nM];exact (aY (fun h=>tf h a8)).symm
      ·exact RF
     ·exact RF
    ·have c:l.length<=i:=by have:=aR (by assumption:decide ((i:Int)<((l.map gi).length:Int))=false); simp at this; omega
     refine Ends.mk (aj rfl) (az ?_);rw [bA c]; rfl
  ·have c:¬ decide ((i:Int)<((l.map gi).length:Int))=true:=fun h=>e (j h)
   repeat' first
 | exact (c a8).elim
    | refine aI.seq ?_
    | refine aI.block ?_
    | refine oJ hG af pM aK ?_
    | refine aI.reg hG af pM aK ?_
    | refine aI.skip hG af ?_
    | refine aI.label hG af ?_
    | refine aI.ret hG af ?_
    | refine aI.exit hG af ?_
    | refine cc rfl ?_
    | refine ce rfl ?_
    | refine aI.cond rfl (aa (fun h=>?_) (fun h=>?_))
    |(conv=>whnf
      first
       | refine cZ ?_
       | refine cY ?_
       | refine aa aK ?_
       | refine aa (au i) (ae _ (aa (hx a8) ?_))
       | refine aa (fun h=>?_) (fun h=>?_)
       | refine aj ?_
       | fail)
   have c:l.length<=i:=by have:=aR (by assumption:decide ((i:Int)<((l.map gi).length:Int))=false); simp at this; omega
   refine Ends.mk (aj rfl) (az ?_);rw [bA c]; rfl
theorem zE {l:List d6} (h:jN l=true):l.length<=64:=by simp only [jN,al,aO] at h; exact h.1
theorem xI {l:List d6} (h:jN l=true):∀ x∈l,x.k=1\/x.k=2:=by simp only [jN,al] at h; exact Pb l [] h.2
def uD (s:Nat->Int) (l:List d6) (a b:Int):List AV:=[.ref (cA a b),.ref (bR s),.ref [i6 l]]
theorem Ly (s:Nat->Int) (l:List d6) (a b:Int):ar Tryz.prog 174 [.agg (bR s),i6 l,.agg (cA a b)] (.clo 253 (uD s l a b)):=dP GF Tryz.func174
def Zo (s:Nat->Int) (l:List d6) (t:Int):Int:=abR s l (DU (iN s) t) t
def jG (s:Nat->Int) (l:List d6) (a b:Int):List (Int×Int):=zI a (fun i=>Zo s l (a+i)) (b - a).toNat
def Tz (p:Int×Int):Array Value:=#[.int .i64 p.1,.int .i64 p.2]
theorem JV (s:Nat->Int) (l:List d6) (a b:Int) (e:0<=a) (d:b<=1000000) (hl:l.length<=1000) (hk:∀ x∈l,x.k=1\/x.k=2):L4 Tryz.prog Tz 253 (uD s l a b) (jG s l a b):=by
 refine L4.of af vD Tryz.func253 rfl aK bj aK (ah rfl) rfl (fun l=>by kernel_rfl) ?_;intro F n m y J Jx hY
 refine YP.loop (X:=Nat) (fun i=>((false,i),⟨(5,.int .i64 (a+i))::params 0 (.lit (.func (.yield y) #[] #[])::uD s l a b),[]⟩)) (fun i=>i<=(b - a).toNat) (fun i=>(b - a).toNat - i) 0 (aZ _) rfl
  (St.le.of ?_ ?_) (fun i hi=>?_)
 ·refine aa (ax (fun z=>some (AV.int .i64 z)) (show a=a+((0:Nat):Int) by omega)) ?_;exact RF
 ·exact trivial
 ·refine fB (keep:=vD) hY af _ _ _ _ aK aK ?_;refine aa (fun h=>?_) (fun h=>?_)
  ·have c:i<(b - a).toNat:=by have:=aF (by assumption:decide (a+(i:Int)<b)=true); omega
   refine ae _ (aa (VC s l (a+i) hl hk) ?_);refine ae _ (aa (UY s (a+i)) ?_);refine aa (fun h2=>?_) (fun h2=>?_)
   ·refine aa rfl (ae (a+(i:Int),Zo s l (a+i)) (aa ?_ (aa (ax (fun z=>#[Value.int .i64 (a+(i:Int)),Value.int .i64 z]) ((aV h2).symm)) (aa ?_ ?_))))
    ·simp [jG,zI,aT,sd c]
    ·refine cZ ?_;refine ae (i+1) (aa c (aa am (aa rfl (St.le.of ?_ trivial))));refine aa (ax (fun z=>some (AV.int .i64 z)) ((a6 am am).trans am)) ?_;exact RF
    ·refine cY ?_;exact iL.mk (aj rfl) (bw rfl)
   ·refine aa rfl (ae (a+(i:Int),Zo s l (a+i)) (aa ?_ (aa (ax (fun z=>#[Value.int .i64 (a+(i:Int)),Value.int .i64 z]) ((aY (fun h=>tf h h2)).symm)) (aa ?_ ?_))))
    ·simp [jG,zI,aT,sd c]
    ·refine cZ ?_;refine ae (i+1) (aa c (aa am (aa rfl (St.le.of ?_ trivial))));refine aa (ax (fun z=>some (AV.int .i64 z)) ((a6 am am).trans am)) ?_;exact RF
    ·refine cY ?_;exact iL.mk (aj rfl) (bw rfl)
  ·refine iL.mk (bw rfl) (aj ?_);simp [jG,zI];have:=aR h;omega
open Go Go.AI
set_option maxRecDepth 10000
theorem W8 {a b:Int} (h:qF a b=true):0<=a/\a<b/\b<=1000000:=by
 simp only [qF,cT,al,aO] at h;rw [a6 am am] at h;omega
theorem Dq {s:Nat->Int} {l:List d6} {a b:Int} (h:mN s l a b=true):(0<=a/\a<b/\b<=1000000)/\b - a<=4320/\jN l=true/\ny s=true:=by
 simp only [mN,al,aO] at h;have c:=W8 h.1.1.1;refine ⟨c,?_,h.1.2,h.2⟩;have:=h.1.1.2;rwa [a6 am am] at this
theorem uC {s:Nat->Int} {l:List d6} {a b:Int}:(jG s l a b).length=(b - a).toNat:=by simp [jG,zI]
theorem OX (m:d5) (x:Int×Int) (i:Nat) (c:AV) (v:Value) (h1:[AV.int .i64 x.1,AV.int .i64 x.2][i]?=some c) (h2:(Tz x)[i]?=some v):RD m c v:=by
 match i,h1,h2 with
 | 0,h1,h2=>cases h1; cases h2; exact .int _ _
 | 1,h1,h2=>cases h1; cases h2; exact .int _ _
def lvS (rows:List (List AV)):AV:=match rows with
 | [] => .sl (.id 1009000) 0 []
 | r => .sl (.id 1009000) 1 r
theorem VM (s:Nat->Int) (l:List d6) (a b:Int) (hl:l.length<=1000000) (hv:mN s l a b=true):ar Tryz.prog 241 [.agg (bR s),i6 l,.agg (cA a b)] (.tup [bB (jD (s 11) (jG s l a b)).2,.int .i64 0]):=by
 obtain ⟨i,t,m,w⟩:=Dq hv;have j:=Lz s l a b hl;rw [hv] at j;have hlen:(jG s l a b).length<=4320:=by rw [uC]; omega
 refine aM mB Tryz.func241 ?_;intro F u w0 m0 hG q h1 kp
 repeat' first|refine aQ ?_|((conv=>whnf); first|refine ae _ (aa (j) ?_)|refine ae _ (aa (Ly s l a b) ?_)|refine ⟨fun h=>?_,fun h=>?_⟩|refine aj ?_)
 refine ⟨kk hG h1 (α:=Int×Int) (fun p=>[.int .i64 p.1,.int .i64 p.2]) (f:=253) (cap:=uD s l a b) (items:=jG s l a b) rfl (vZ (JV s l a b i.1 i.2.2 (by have:=zE m; omega) (xI m)) (fun _=>rfl) OX) (fun _=>rfl)
  (fun _=>[(9,.loc 9 0),(8,.loc 8 0),(3,.loc 3 0)]) [9,8,3] (fun _=>rfl) (fun pre=>[(9,[lvS ((jD (s 11) pre).2.map fun h=>[.int .i64 h])]),(8,[.int .i64 (jD (s 11) pre).1]),(3,bR s)]) (St.le.of ?_ ?_) aK bt ?_ ?_⟩
 ·exact RF
 ·exact RF
 ·intro v n m' hG _ _ pre x rest hx;have o:pre.length<4320:=by rw [hx] at hlen; simp at hlen; omega
  have c:((jD (s 11) pre).2.map fun h=>[AV.int .i64 h]).length=pre.length:=by rw [ay,tq]
  refine aI.out (aI.reg hG af mB aK ?_)
  conv=>whnf
  refine aa rfl (aa (St.le.of ?_ ?_) ?_)
  ·exact RF
  ·exact RF
  ·refine aI.out ?_;generalize e:((jD (s 11) pre).2.map fun h=>[AV.int .i64 h])=rows at c ⊢;rcases rows with _ | ⟨y,r⟩
   ·repeat' first|refine QE [] rfl hG af (.mk:KP mB) ?_|((conv=>whnf); first|refine cZ ?_|refine cY ?_|refine ed ?_|refine aa (show (List.length ([]:List (List AV))+1)*8<=70368744177664 by rw [c]; omega) ?_|refine aa (show List.length ([]:List (List AV))+1<=4611686018427387904 by rw [c]; omega) ?_|refine aa (fun h=>?_) (fun h=>?_)|refine aj ?_)
    refine St.le.of ?_ ?_
    ·exact RF
    ·refine aa ?_ (aa ?_ (aa rfl trivial))
     ·rw [nJ,rO,dw,e]; rfl
     ·rw [nJ]; rfl
   ·repeat' first|refine QE [] rfl hG af (.mk:KP mB) ?_|((conv=>whnf); first|refine cZ ?_|refine cY ?_|refine ed ?_|refine aa (show (List.length ((y::r):List (List AV))+1)*8<=70368744177664 by rw [c]; omega) ?_|refine aa (show List.length ((y::r):List (List AV))+1<=4611686018427387904 by rw [c]; omega) ?_|refine aa (fun h=>?_) (fun h=>?_)|refine aj ?_)
    refine St.le.of ?_ ?_
    ·exact RF
    ·refine aa ?_ (aa ?_ (aa rfl trivial))
     ·rw [nJ,rO,dw,e]; rfl
     ·rw [nJ]; rfl
 ·have d:((jD (s 11) (jG s l a b)).2.map fun h=>[AV.int .i64 h]).length≠0:=by rw [ay,tq,uC]; omega
  rw [show bB (jD (s 11) (jG s l a b)).2 = .sl .no 1 ((jD (s 11) (jG s l a b)).2.map fun h=>[AV.int .i64 h]) from rfl];generalize ((jD (s 11) (jG s l a b)).2.map fun h=>[AV.int .i64 h])=rows at d ⊢;rcases rows with _ | ⟨y,r⟩
  ·exact absurd rfl d
  ·conv=>whnf
   repeat' first|refine aQ ?_|((conv=>whnf); first|refine ⟨fun h=>?_,fun h=>?_⟩|refine aj ?_)
   all_goals exact Ends.mk (aj rfl) (az rfl)
open Go Go.AI
set_option maxRecDepth 10000
def En (s:Nat->Int) (l:List d6) (a b:Int):Int:=let i:=lV (fun n=>decide (n<0)) (jD (s 11) (jG s l a b)).2 0; if i>=0 then cm (a+i) else -1
open Go Go.AI
set_option maxRecDepth 10000
def g8 (x:Int×Int×Int):List AV:=[.int .i64 x.1,.int .i64 x.2.1,.int .i64 x.2.2]
def uL (x:Int×Int×Int):Prop:=n3 x.1/\n3 x.2.1/\n3 x.2.2
open Go Go.AI
set_option maxRecDepth 10000
structure rH where
 x:Nat->Int
 y:Nat->Int
 z:List (Int×Int×Int)
 from_:Int
 long:Int
 hx:∀ i,n3 (x i)
 hy:∀ i,n3 (y i)
 hz:∀ r∈z,uL r
 hf:n3 from_
 hl:n3 long
def rH.s (c:rH):Nat->Int:=aaE c.x c.y
theorem kB {n a b:Int} (h:a<=n/\n<=b):cT n a b=true:=by simp only [cT,al,aO]; exact h
structure acj (s:Nat->Int):Prop where
 c:100<=s 11/\s 11<=2099
 u:0<=s 12/\s 12<=11
 i:0<=s 13/\s 13<=3
 h:2<=s 14/\s 14<=31
 d:1<=s 15/\s 15<=20
theorem rH.mfed (c:rH):acj c.s:=by
 have d:=bO (c.hy 1) (n:=2000) am;have e:=bO (c.hy 2) (n:=12) am;have b:=bO (c.hy 2) (n:=4) am;have a:=bO (c.hy 2) (n:=30) am;have f:=bO (c.hy 3) (n:=20) am;refine ⟨?_,?_,?_,?_,?_⟩
 ·show 100<=cm (100+aH (c.y 1) 2000)/\cm (100+aH (c.y 1) 2000)<=2099;grind [a6]
 ·show 0<=aH (c.y 2) 12/\aH (c.y 2) 12<=11;omega
 ·show 0<=aH (c.y 2) 4/\aH (c.y 2) 4<=3;omega
 ·show 2<=cm (2+aH (c.y 2) 30)/\cm (2+aH (c.y 2) 30)<=31;grind [a6]
 ·show 1<=cm (1+aH (c.y 3) 20)/\cm (1+aH (c.y 3) 20)<=20;grind [a6]
theorem TC {o p:Nat->Int} (h:∀ i,i<7->o i=p i):th o=th p:=by
 grind [th]
theorem rH.orb (c:rH):∀ i,i<7->iN c.s i=hU c.x i:=by
 intro i hi
 match i,hi with
 | 0,_=>rfl
 | 1,_=>rfl
 | 2,_=>rfl
 | 3,_=>rfl
 | 4,_=>rfl
 | 5,_=>rfl
 | 6,_=>rfl
theorem rH.pv (c:rH):PV (iN c.s):=by
 rw [<- iY,TC c.orb,iY];exact (Xr c.hx).1
theorem rH.sat (c:rH):ny c.s=true:=by
 have m:=c.mfed;have D:=m.c; have H:=m.u; have G:=m.i; have L:=m.h; have md:=m.d
 have J:=bO (c.hy 0) (n:=4) am;have p1:=bO (c.hy 1) (n:=200) am;have p2:=bO (c.hy 1) (n:=60) am;have v:=bO (c.hy 2) (n:=9) am;have x:=bO (c.hy 3) (n:=9) am;have w:=bO (c.hy 3) (n:=4) am;have B:0<=aH (cm ((c.y 0).tdiv 4)) 4/\aH (cm ((c.y 0).tdiv 4)) 4<4:=bO (nC _) am;have F:th (fun i=>c.s (i+2))=true:=(iY _).2 c.pv;have A:cT (c.s 0) 0 23=true:=by show cT (aH 3 24) 0 23=true; decide
 have E:cT (c.s 1) 0 15=true:=kB (show 0<=aH (c.y 0) 4/\aH (c.y 0) 4<=15 by omega);have z:cT (c.s 9) 0 4=true:=kB (show 0<=aH (c.y 0) 4/\aH (c.y 0) 4<=4 by omega);have t:cT (c.s 10) 1 1000000=true:=kB (show 1<=cm (20+aH (c.y 1) 200)/\cm (20+aH (c.y 1) 200)<=1000000 by grind [a6]);have q:cT (c.s 19) 0 60=true:=kB (show 0<=aH (cm ((c.y 0).tdiv 4)) 4/\aH (cm ((c.y 0).tdiv 4)) 4<=60 by omega);have b:cT (c.s 20) 1 1000=true:=kB (show 1<=cm (1+aH (c.y 2) 9)/\cm (1+aH (c.y 2) 9)<=1000 by grind [a6]);have r:cT (c.s 16) 0 10000=true:=kB (show 0<=cm (1+aH (c.y 3) 9)/\cm (1+aH (c.y 3) 9)<=10000 by grind [a6]);have o:cT (c.s 17) 0 10000=true:=kB (show 0<=cm (1+aH (c.y 3) 4)/\cm (1+aH (c.y 3) 4)<=10000 by grind [a6]);have j:cT (c.s 18) 1 1000000=true:=kB (show 1<=cm (5+aH (c.y 1) 60)/\cm (5+aH (c.y 1) 60)<=1000000 by grind [a6]);have p:cT (c.s 11) 1 1000000=true:=kB am;have l:cT (c.s 12) 0 10000=true:=kB am;have e:cT (c.s 13) 0 10000=true:=kB am;have f:cT (c.s 14) 0 10000=true:=kB am;have a:cT (c.s 15) 0 10000=true:=kB am;grind [ny,Bool.and_self]
open Go Go.AI
set_option maxRecDepth 10000
theorem LF (n a b:Int):ar Tryz.prog 256 [.int .i64 n,.int .i64 a,.int .i64 b] (.bool (cT n a b)):=by
 refine aM FL Tryz.func256 ?_;intro F d w0 m0 hG c h1 kp
 repeat' first|refine aQ ?_|((conv=>whnf); first|refine ⟨fun h=>?_,fun h=>?_⟩|refine aj ?_)
 all_goals refine Eb ?_
 all_goals (simp_all [cT] <;> omega)
set_option maxHeartbeats 4000000 in
theorem AZ (o:Nat->Int):ar Tryz.prog 190 [.agg (d7 o)] (.bool (th o)):=by
 refine aM Gp Tryz.func190 ?_;intro F b w0 m0 hG a h1 kp
 repeat' first|refine aQ ?_|((conv=>whnf); first|refine ae _ (aa (LF _ _ _) ?_)|refine aa bt ?_|refine ⟨fun h=>?_,fun h=>?_⟩|refine aj ?_)
 all_goals refine Eb ?_
 all_goals (dsimp only [th,cT,cm]; rw [e7]; simp only [cT,al,Ch,aO,gB,Nl,Jw,bne_iff_ne,Bg,bne_eq_false_iff_eq,c8,iv,br,aby,Bool.not_eq_eq_eq_not,jm,eu] at *; generalize IntKind.i64.wrap (o 0 - 1)=q at *; generalize (o 0).tmod 2=r at *; omega)
theorem PH {o:Nat->Int} {t late:Int} (h:sS o t late=true):PV o/\0<=t/\t<=1000000/\-10<=late/\late<=10:=by
 simp only [sS,cT,al,aO] at h;exact ⟨(iY o).1 h.2,h.1.1.1,h.1.1.2,h.1.2.1,h.1.2.2⟩
theorem PK {n c:Int} (b:0<c) (a:c<=1000000) (h1:-1000000000000<=n) (h2:n<=1000000000000):arL n c=US n c:=by rw [aab b a h1 h2,EE b a h1 h2]
theorem abL {o:Nat->Int} {t late:Int} (h:sS o t late=true):arL (cm (cm (t - late)+o 1)) (o 0)=US (cm (cm (t - late)+o 1)) (o 0):=by
 obtain ⟨hv,h1,h2,b,a⟩:=PH h;have:=hv.p1; have:=hv.p2; have:=hv.h1; have:=hv.h2
 rw [a6 (n:=t - late) am am,a6 am am];exact PK am am am am
theorem ace {o:Nat->Int} {t late:Int} (h:sS o t late=true):arL (cm (o 4+cm (o 5*cm (t - late)))) 48000=US (cm (o 4+cm (o 5*cm (t - late)))) 48000:=by
 obtain ⟨hv,h1,h2,b,a⟩:=PH h;have:=hv.n1; have:=hv.n2
 have hm:=O7 hv (t:=t - late) am am;rw [a6 (n:=t - late) am am,a6 (n:=o 5*(t - late)) am am,a6 am am];exact PK am am am am
def Mr (o:Nat->Int) (t late:Int):Int:=if sS o t late then rowW o (cm (t - late)) else 0
def Nb (o:Nat->Int) (t late:Int):Int:=if sS o t late then Jp o (cm (t - late)) else 0
def Nf (o:Nat->Int) (t late:Int):Int×Int:=if sS o t late then kV o (cm (t - late)) else (0,0)
def Z4 (b:Bool):Int:=if b then 0 else 70
open Go Go.AI
set_option maxRecDepth 10000
theorem De (n a b:Int):ar Tryz.prog 191 [.int .i64 n,.int .i64 a,.int .i64 b] (.bool (cT n a b)):=by
 refine aM Gn Tryz.func191 ?_;intro F d w0 m0 hG c h1 kp
 repeat' first|refine aQ ?_|((conv=>whnf); first|refine ⟨fun h=>?_,fun h=>?_⟩|refine aj ?_)
 all_goals refine Eb ?_
 all_goals (simp_all [cT] <;> omega)
theorem td3 (n:Int):(0<=n->n.tdiv 3=n / 3)/\(n<0->n.tdiv 3 = -((-n) / 3)):=by
 refine ⟨fun h=>dW h,fun h=>?_⟩;have e:n.tdiv 3 = -((-n).tdiv 3):=by rw [Int.neg_tdiv,Int.neg_neg]
 rw [e,dW am]
def small (n:Int):Prop := -1000000000<=n/\n<=1000000000
theorem t8 {n:Int} (h:small n):iU n=n / 3:=by
 obtain ⟨h1,h2⟩:=h;obtain ⟨g1,g2⟩:=td3 n;have e:cm (n.tdiv 3)=n.tdiv 3:=a6 am am;unfold iU;rw [e,a6 (n:=3*n.tdiv 3) am am];split
 ·rw [a6 am am]; omega
 ·omega
theorem O8 {t:Int} (h:cT t 0 1000000=true):0<=t/\t<=1000000:=by simpa only [cT,al,aO] using h
theorem PD {t:Int} (h:cT t 0 1000000=true):0<=iA t/\iA t<360:=by
 have:=O8 h;unfold iA;rw [a6 (by rw [dW this.1]; omega) (by rw [dW this.1]; omega),dW this.1];exact ⟨mL _ am,fe _ am⟩
theorem TJ {t:Int} (h:cT t 0 1000000=true):small (cm (cm (1440 - t.tmod 1440)*100)):=by
 have:=O8 h;have h1:0<=t.tmod 1440:=mL _ this.1;have h2:t.tmod 1440<1440:=fe _ am;unfold small;rw [a6 (n:=1440 - t.tmod 1440) am am,a6 am am];omega
theorem TH (t:Int):small (sG t):=by
 unfold sG small;generalize iU _=q;rcases Int.lt_or_le q 0 with h | h
 ·have e:q.tmod 48000 = -((-q).tmod 48000):=by rw [Int.neg_tmod,Int.neg_neg]
  have h1:0<=(-q).tmod 48000:=mL _ am;have h2:(-q).tmod 48000<48000:=fe _ am;omega
 ·have h1:0<=q.tmod 48000:=mL _ h;have h2:q.tmod 48000<48000:=fe _ am;omega
theorem Tn {t:Int} (h:cT t 0 1000000=true):small (cm (iA t*100))/\small (cm (cm (180 - iA t)*100))/\small (cm (cm (iA t - 360)*100)):=by
 have:=PD h;unfold small;rw [a6 (n:=iA t*100) am am,a6 (n:=180 - iA t) am am,a6 (n:=(180 - iA t)*100) am am,a6 (n:=iA t - 360) am am,a6 (n:=(iA t - 360)*100) am am];omega
theorem Mn {t:Int} (h:cT t 0 1000000=true):small (jo t):=by
 have e:=PD h;obtain ⟨h1,h2,a⟩:=Tn h;have b:=t8 h1;have d:=t8 h2;have c:=t8 a;rw [oe] at b d c h1 h2 a;unfold jo small at *;split
 ·rw [b,a6 am am]; omega
 ·split
  ·rw [d,a6 am am]; omega
  ·rw [c,a6 am am]; omega
theorem UK {c:Int×Int} (h:kE c=true):0<=c.1/\c.1<=47/\0<=c.2/\c.2<=23:=by
 simp only [kE,cT,al,aO] at h; omega
set_option maxHeartbeats 4000000 in
theorem UX (s:Nat->Int):ar Tryz.prog 118 [.agg (bR s)] (.bool (ny s)):=by
 refine aM Hj Tryz.func118 ?_;intro F b w0 m0 hG a h1 kp
 repeat' first|refine aQ ?_|((conv=>whnf); first|refine ae _ (aa (De _ _ _) ?_)|refine ae _ (aa (AZ (fun i=>s (i+2))) ?_)|refine ⟨fun h=>?_,fun h=>?_⟩|refine aj ?_)
 all_goals refine Eb ?_
 all_goals (simp only [c8,iv] at *)
 all_goals (simp only [ny, *,bG,cH,bE,bN])
open Go Go.AI
set_option maxRecDepth 10000
def Cz (a b:Int):Bool:=decide (0<=a)&&decide (a<b)&&decide (b<=1000000)&&decide (cm (b - a)<=3000)
structure gW where
 a:Int
 b:Int
 k:Int
def lK (x:gW):List AV:=[.int .i64 x.a,.int .i64 x.b,.int .i64 x.k]
def kJ (l:List gW):AV := .sl .no 3 (l.map lK)
def qV (s:Nat->Int) (l:List gW) (a b:Int):List AV:=[.ref (cA a b),.ref (bR s),.ref [kJ l]]
def L7 (t:Int) (x:gW):Bool:=decide (x.a<=t)&&decide (t<x.b)
def Ai (b a:Int) (t:Int) (l:List gW):Int:=l.foldl (fun g x=>if L7 t x then cm (g+b) else g) (cm (0 - a))
def pg (s:Nat->Int) (l:List gW) (a b:Int):List (Int×Int):=(List.range (b - a).toNat).map fun (i:Nat)=>(a+i,Ai (s 16) (s 17) (a+(i:Int)) l)
theorem tx (w c t:Int) (l:List gW) (x:gW):Ai w c t (l++[x])=if L7 t x then cm (Ai w c t l+w) else Ai w c t l:=by simp [Ai,cJ]
def jP (pre:List (Int×Int)):Int×List Int:=pre.foldl (fun r p=>(max 0 (cm (r.1+p.2)),r.2++[max 0 (cm (r.1+p.2))])) (0,[])
theorem xQ (pre:List (Int×Int)):(jP pre).2.length=pre.length:=by
 suffices h:∀ (r:Int×List Int),(pre.foldl (fun r p=>(max 0 (cm (r.1+p.2)),r.2++[max 0 (cm (r.1+p.2))])) r).2.length=r.2.length+pre.length by simpa [jP] using h (0,[])
 induction pre with
 | nil=>intro r; simp
 | cons p t a=>grind
theorem uO (pre:List (Int×Int)) (x:Int×Int):jP (pre++[x])=(max 0 (cm ((jP pre).1+x.2)),(jP pre).2++[max 0 (cm ((jP pre).1+x.2))]):=by simp [jP,cJ]
def Zw (pre:List (Int×Int)):List (Nat×List AV):=[(8,[.int .i64 (jP pre).1]),(7,[.sl (.id 16) 1 ((jP pre).2.map fun h=>[.int .i64 h])])]
open Go Go.AI
set_option maxRecDepth 10000
def UV (s:Nat->Int) (x:gW):Bool:=decide (0<=x.a)&&decide (x.a<x.b)&&decide (x.b<=1000000)&&decide (cm (x.b - x.a)<=60)&&cT x.k (cm (0 - s 9)) (s 9)
def Yw (s:Nat->Int) (x:gW) (j:Nat):Bool:=match j with
 | 0=>decide (0<=x.a)&&decide (x.a<x.b)&&decide (x.b<=1000000)
 | 1=>decide (cm (x.b - x.a)<=60)
 | _=>cT x.k (cm (0 - s 9)) (s 9)
theorem OB (s:Nat->Int) (x:gW):UV s x=(Yw s x 0&&Yw s x 1&&Yw s x 2):=rfl
def Re (s:Nat->Int) (l:List gW):Bool:=l.all (UV s)&&decide (l.length<=64)
theorem UU {α:Type} {p:α->Bool} {l:List α} {i:Nat} (hi:i<l.length) (h:(l.take i).all p=true) (hx:p l[i]=true):(l.take (i+1)).all p=true:=by
 grind [List.take_add_one,List.getElem?_eq_getElem]
theorem Yb {α:Type} {p:α->Bool} {l:List α} {i:Nat} (hi:i<l.length) (hx:p l[i]=false):l.all p=false:=by
 grind
def aaB (s:Nat->Int) (j k:Int):Int:=cm (s 19*max (cm (j - k)) (cm (k - j)))
def aaL (s:Nat->Int) (x y:gW):Bool:=decide (y.a>=cm (x.b+aaB s x.k y.k))
def XI (s:Nat->Int) (x y:gW):Bool:=if y.a<x.a then aaL s y x else aaL s x y
def yn (s:Nat->Int) (l:List gW):Bool:=Re s l&&ny s
theorem C1 {α:Type} {f:Nat->Option α} {N n:Nat} {v:α} (a:n<N) (h:∀ j,j<n->f j=none) (hv:f n=some v):(List.range N).findSome? f=some v:=by
 obtain ⟨d,rfl⟩:∃ d,N=n+(d+1):=⟨N - n - 1,by omega⟩;rw [List.range_add,List.findSome?_append,aai.2 (fun x hx=>h x (bz.1 hx)),List.range_succ_eq_map];simp [hv]
theorem C2 {α:Type} {f:Nat->Option α} {N:Nat} (h:∀ j,j<N->f j=none):(List.range N).findSome? f=none:=aai.2 (fun x hx=>h x (bz.1 hx))
def xZ (l:List gW) (i:Nat):gW:=l.getD i ⟨0,0,0⟩
theorem JG {l:List gW} {i:Nat} (h:i<l.length):xZ l i=l[i]:=by simp [xZ,aG,ai h]
def OF (s:Nat->Int) (l:List gW) (k i:Nat):Option (Nat×Nat):=if XI s (xZ l i) (xZ l k) then none else some (i,k)
def YA (s:Nat->Int) (l:List gW) (k:Nat):Option (Nat×Nat):=(List.range k).findSome? (OF s l k)
def xA (s:Nat->Int) (l:List gW):Option (Nat×Nat):=(List.range l.length).findSome? (YA s l)
def YC:Option (Nat×Nat)->List AV
 | none=>[.int .i64 0,.int .i64 0,.bool false,.int .i64 0]
 | some (i,k)=>[.int .i64 i,.int .i64 k,.bool true,.int .i64 0]
theorem Zb {a b:Int} (h:Cz a b=true):0<=a/\a<b/\b<=1000000:=by simp only [Cz,al,aO] at h; omega
theorem abj {p:Prop} {b:Bool} (h:(!b)=true) (g:b=true):p:=by rw [g] at h; cases h
def DZ (s:Nat->Int) (l:List gW) (a b:Int):List Int:=(jP (pg s l a b)).2
theorem MW (s:Nat->Int) (l:List gW) (a b:Int):(DZ s l a b).length=(b - a).toNat:=by rw [DZ,xQ,pg]; simp
def T5 (s:Nat->Int) (l:List gW) (a b:Int):Int:=let i:=lV (fun h=>decide (h>s 18)) (DZ s l a b) 0; if i>=0 then cm (a+i) else -1
open Go Go.AI
set_option maxRecDepth 10000
def nd (t:Int) (l:List gW):Nat:=(l.filter (L7 t)).length
def hv (g:Int->Int) (a:Int):Nat->Int
 | 0=>0
 | n+1=>max 0 (hv g a n+g (a+n))
def OG (s:Nat->Int) (l:List gW):AV := .tup (if yn s l then YC (xA s l) else [.int .i64 0,.int .i64 0,.bool false,.int .i64 120])
open Go Go.AI
set_option maxRecDepth 10000
structure ea where
 p:Int
 a:Int
 b:Int
deriving DecidableEq
def dA (x:ea):List AV:=[.int .i64 x.p,.int .i64 x.a,.int .i64 x.b]
structure dZ where
 id:Int
 ord:Int
 cl:Int
 sat:Int
 a:Int
 b:Int
 look:Int
 size:Int
 sl:List ea
def wv (l:List ea):AV := .sl .no 3 (l.map dA)
def bL (o:dZ):List AV:=[.int .i64 o.id,.int .i64 o.ord,.int .i64 o.cl,.int .i64 o.sat,.int .i64 o.a,.int .i64 o.b,.int .i64 o.look,.int .i64 o.size,wv o.sl]
def dl (l:List dZ):AV := .sl .no 9 (l.map bL)
theorem mJ (n a b:Int):ar Tryz.prog 233 [.int .i64 n,.int .i64 a,.int .i64 b] (.bool (cT n a b)):=by
 refine aM F1 Tryz.func233 ?_;intro F d w0 m0 hG c h1 kp
 repeat' first|refine aQ ?_|((conv=>whnf); first|refine ⟨fun h=>?_,fun h=>?_⟩|refine aj ?_)
 all_goals refine Eb ?_
 all_goals (simp_all [cT] <;> omega)
theorem Rl (n a b:Int):ar Tryz.prog 201 [.int .i64 n,.int .i64 a,.int .i64 b] (.bool (cT n a b)):=by
 refine aM Gf Tryz.func201 ?_;intro F d w0 m0 hG c h1 kp
 repeat' first|refine aQ ?_|((conv=>whnf); first|refine ⟨fun h=>?_,fun h=>?_⟩|refine aj ?_)
 all_goals refine Eb ?_
 all_goals (simp_all [cT] <;> omega)
theorem r8 (n a b:Int):ar Tryz.prog 239 [.int .i64 n,.int .i64 a,.int .i64 b] (.bool (cT n a b)):=by
 refine aM FW Tryz.func239 ?_;intro F d w0 m0 hG c h1 kp
 repeat' first|refine aQ ?_|((conv=>whnf); first|refine ⟨fun h=>?_,fun h=>?_⟩|refine aj ?_)
 all_goals refine Eb ?_
 all_goals (simp_all [cT] <;> omega)
theorem JH (a b:Int):ar Tryz.prog 151 [.agg (cA a b)] (.bool (qF a b)):=by
 refine aM GW Tryz.func151 ?_;intro F d w0 m0 hG c h1 kp
 repeat' first|refine aQ ?_|((conv=>whnf); first|refine ae _ (aa (mJ _ _ _) ?_)|refine ⟨fun h=>?_,fun h=>?_⟩|refine aj ?_)
 all_goals refine Eb ?_
 all_goals (simp only [qF, *,bG,cH,bE,bN]; try rfl)
def wM (a b:Int):Bool:=decide (0<=a)&&decide (a<b)&&decide (b<=1000001)
theorem xe (a b:Int):ar Tryz.prog 283 [.agg (cA a b)] (.bool (wM a b)):=by
 refine aM Fz Tryz.func283 ?_;intro F d w0 m0 hG c h1 kp
 repeat' first|refine aQ ?_|((conv=>whnf); first|refine ⟨fun h=>?_,fun h=>?_⟩|refine aj ?_)
 all_goals refine Eb ?_
 all_goals (simp_all [wM] <;> (intros; omega))
def CV (a b m:Int):Bool:=wM a b&&decide (cm (b - a)<=m)
theorem Rm (a b m:Int):ar Tryz.prog 200 [.agg (cA a b),.int .i64 m] (.bool (CV a b m)):=by
 refine aM Gg Tryz.func200 ?_;intro F d w0 m0 hG c h1 kp
 repeat' first|refine aQ ?_|((conv=>whnf); first|refine ⟨fun h=>?_,fun h=>?_⟩|refine aj ?_)
 all_goals refine Eb ?_
 all_goals (simp only [CV,wM,cm, *,bG,cH,bE,bN]; try rfl)
def eG (o:Nat->Int) (a b k:Int):Bool:=th o&&CV a b 60&&cT k (-4) 4
theorem r7 (o:Nat->Int) (a b k:Int):ar Tryz.prog 131 [.agg (d7 o),.agg (cA a b),.int .i64 k] (.bool (eG o a b k)):=by
 refine aM G9 Tryz.func131 ?_;intro F d w0 m0 hG c h1 kp
 repeat' first|refine aQ ?_|((conv=>whnf); first|refine ae _ (aa (A0 o) ?_)|refine ae _ (aa (Rm _ _ _) ?_)|refine ae _ (aa (Rl _ _ _) ?_)|refine ⟨fun h=>?_,fun h=>?_⟩|refine aj ?_)
 all_goals refine Eb ?_
 all_goals simp only [eG, *,bG,cH,bE,bN]
def pj:Int->List ea->Bool
 | _,[]=>true
 | t,x::r=>decide (t<=x.a)&&wM x.a x.b&&pj x.b r
def EC (o:dZ):Bool:=pj o.b o.sl&&(cT o.id 0 63&&cT o.size 1 1000000&&wM o.a o.b&&cT (o.sl.length:Int) 1 6)
theorem yS {l:List ea} {i:Nat} (h:i<l.length):(l.map dA)[(i:Int).toNat]?=some [.int .i64 (l.getD i ⟨0,0,0⟩).p,.int .i64 (l.getD i ⟨0,0,0⟩).a,.int .i64 (l.getD i ⟨0,0,0⟩).b]:=by simp [ai h]; rfl
theorem I8 {t:Int} {l:List ea} {i:Nat} (h:i<l.length):pj t (l.drop i)=(decide (t<=(l.getD i ⟨0,0,0⟩).a)&&wM (l.getD i ⟨0,0,0⟩).a (l.getD i ⟨0,0,0⟩).b&&pj (l.getD i ⟨0,0,0⟩).b (l.drop (i+1))):=by
 rw [dy h,aG,ai h]; rfl
set_option maxHeartbeats 4000000 in
theorem Ro (o:dZ) (hl:o.sl.length<=1000000):ar Tryz.prog 250 [.agg (bL o)] (.bool (EC o)):=by
 have j:((o.sl.map dA).length:Int)=(o.sl.length:Int):=by rw [ay]
 refine aM FO Tryz.func250 ?_;intro F r w0 m0 hG n h1 kp;refine bv ?_
 refine aI.loop (X:=Nat×Int×Int) (fun q=>⟨[(11,.int .i64 q.1),(10,.int .i64 (o.sl.map dA).length),(9,wv o.sl),(3,.loc 3 0),(1,.loc 1 0)],[(3,cA q.2.1 q.2.2),(1,bL o)]⟩)
  (fun q=>q.1<=o.sl.length/\pj q.2.2 (o.sl.drop q.1)=pj o.b o.sl) (fun q=>o.sl.length - q.1) (0,o.a,o.b) ⟨aZ _,rfl⟩ (St.le.of ?_ ?_) (fun q p=>?_)
 ·exact RF
 ·exact RF
 ·obtain ⟨i,t,e⟩:=q;obtain ⟨hi,hf⟩:=p;have hi:i<=o.sl.length:=hi;have hf:pj e (o.sl.drop i)=pj o.b o.sl:=hf;by_cases c:i<o.sl.length
  ·have d:=dF (show (i:Int)<((o.sl.map dA).length:Int) by omega);have hx:=yS c;rw [I8 c] at hf;generalize o.sl.getD i ⟨0,0,0⟩=x at hx hf;have f:(decide (e<=x.a)&&wM x.a x.b)=false->false=EC o:=fun h=>by rw [h,bE] at hf; rw [EC,<- hf,bE]
   repeat' first|exact (d a8).elim|refine aQ ?_|((conv=>whnf); first|refine aa (au i) (ae _ (aa hx ?_))|refine ae _ (aa (xe _ _) ?_)|refine ⟨fun h=>?_,fun h=>?_⟩|refine aj ?_)
   ·have h:=aF (by assumption:decide (x.a<e)=true);exact Ends.mk (aj rfl) (az (ax AV.bool (f (by rw [dR am,bE]))))
   ·have h:=DP (by assumption:(!wM x.a x.b)=true);exact Ends.mk (aj rfl) (az (ax AV.bool (f (by rw [h,bN]))))
   ·have h1:=aR (by assumption:decide (x.a<e)=false);have h2:=zO (by assumption:(!wM x.a x.b)=false);rw [bP (show e<=x.a by omega),h2,bG,bG] at hf;refine ae (i+1,x.a,x.b) (aa ⟨c,hf⟩ (aa (by show o.sl.length - (i+1)<o.sl.length - i; omega) (LE)))
  ·have m:i=o.sl.length:=by omega
   have d:=dT (show ¬((i:Int)<((o.sl.map dA).length:Int)) by omega);rw [c7 am] at hf;have l:pj o.b o.sl=true:=hf.symm;clear hf
   repeat' first|exact (d a8).elim|refine aQ ?_|((conv=>whnf); first|refine ae _ (aa (r8 _ _ _) ?_)|refine ae _ (aa (xe _ _) ?_)|refine ⟨fun h=>?_,fun h=>?_⟩|refine aj ?_)
   all_goals refine Eb ?_
   all_goals (rw [EC,l]; simp only [j, *,bG,cH,bE,bN])
open Go Go.AI
def abN:dZ:=⟨0,0,0,0,0,0,0,0,[]⟩
def Yz:ea:=⟨0,0,0⟩
def xM (l:List dZ) (i:Nat):dZ:=l.getD i abN
def Mm (o:dZ) (i:Nat):ea:=o.sl.getD i Yz
def uG (o:dZ):Int:=(Mm o (o.sl.length - 1)).b
def gc (l:List dZ):List gW:=l.map fun o=>⟨o.a,o.b,o.look⟩
def zj (l:List dZ):List Img:=l.map fun o=>⟨o.id,o.size,o.a,uG o⟩
structure Wl where
 k:Int
 a:Int
 b:Int
 t:Int
deriving DecidableEq
def lZ (x:Wl):List AV:=[.int .i64 x.k,.int .i64 x.a,.int .i64 x.b,.int .i64 x.t]
def lF (l:List Wl):AV := .sl .no 4 (l.map lZ)
def slP (o:dZ):List (Int×Int):=o.sl.map fun x=>(x.a,x.b)
theorem TE {l:List dZ} {i:Nat} (h:i<l.length):xM l i=l[i]:=by simp [xM,aG,ai h]
end Go.Proofs
