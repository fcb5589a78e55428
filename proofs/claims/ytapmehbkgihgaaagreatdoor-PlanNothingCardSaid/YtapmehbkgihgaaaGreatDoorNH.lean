/- Part 8 of the proof: an abstract interpreter for the code, contracts of the functions, and plain facts; the conditions are those typed. -/
import Derived.Test.YtapmehbkgihgaaaGreatDoorNG
import Derived.Shelf.Small.Bits
set_option linter.unusedSectionVars false
set_option linter.unusedVariables false
set_option linter.unusedSimpArgs false
namespace Go.AI
open Go
abbrev dP:=@Nat.min_le_left
abbrev gR:=@Nat.min_le_right
abbrev jz:=@Int.eq_ofNat_of_zero_le
abbrev pT:=@List.mem_flatMap
abbrev Le:=@List.takeWhile_cons
abbrev Li:=@List.dropWhile_cons
abbrev R7:=@List.takeWhile_append_dropWhile
end Go.AI
namespace Go.Proofs
open Go Go.AI
set_option maxRecDepth 100000
theorem Qq {a b:Nat} (d:a<9223372036854775808) (c:b<9223372036854775808):pw .or .i64 (a:Int) (b:Int)=((a ||| b:Nat):Int):=by
 have h:a ||| b<9223372036854775808:=Nat.or_lt_two_pow (n:=63) d c;have h1:(BitVec.ofInt 64 (a:Int)).toNat=a:=by rw [qq,tC]; exact lM ar
 have h2:(BitVec.ofInt 64 (b:Int)).toNat=b:=by rw [qq,tC]; exact lM ar
 show IntKind.i64.wrap (((BitVec.ofInt 64 (a:Int)) ||| (BitVec.ofInt 64 (b:Int))).toNat:Int)=_;rw [BitVec.toNat_or,h1,h2];exact aZ ar ar
theorem XJ {c:Nat} (a:c<48):2 ^ c<281474976710656:=Nat.pow_lt_pow_right ar a
theorem Oq {n c:Nat} (d:n<281474976710656) (a:c<48):SJ (n:Int) (c:Int)=((n ||| 2 ^ c:Nat):Int):=by
 have b:=XJ a
 have e:bW (1*2 ^ min (c:Int).toNat 64)=((2 ^ c:Nat):Int):=by
  rw [show min (c:Int).toNat 64=c by omega,Int.one_mul,show ((2:Int) ^ c)=((2 ^ c:Nat):Int) by simp];generalize 2 ^ c=z at *;exact aZ ar ar
 unfold SJ;rw [e];exact Qq ar ar
def iT (r:Int):Prop:=0<=r/\r<=281474976710655
theorem Da {r:Int} {c:Nat} (h:iT r) (a:c<48):0<SJ r c/\SJ r c<=281474976710655:=by
 obtain ⟨d,h1⟩:=h;obtain ⟨n,rfl⟩:=jz d;rw [Oq ar a];have b:=XJ a;have h2:n ||| 2 ^ c<281474976710656:=Nat.or_lt_two_pow (n:=48) (x:=n) (y:=2 ^ c) ar b;grind [Nat.right_le_or,Nat.two_pow_pos]
theorem Wn {r:Int} {c:Nat} (h:iT r) (b:c<48) (k:Nat):(SJ r c).toNat.testBit k=(r.toNat.testBit k||decide (c=k)):=by
 obtain ⟨a,h1⟩:=h;obtain ⟨n,rfl⟩:=jz a;rw [Oq ar b,eK,Nat.testBit_or,Nat.testBit_two_pow];rfl
theorem uz {l:List Int} (h:∀ r∈l,iT r) (i:Nat):iT (l.getD i 0):=by
 rw [aK]
 cases hx:l[i]? with
 | none=>exact ⟨by simp,by simp⟩
 | some x=>grind
theorem BI:∀ r∈tE,iT r:=fun r h=>by
 have:=List.eq_of_mem_replicate h;subst this;exact ⟨by omega,by omega⟩
theorem NV {l:List Int} (h:∀ r∈l,iT r) (i:Nat) {x:Int} (hx:iT x):∀ r∈l.set i x,iT r:=fun r a=>by
 grind
theorem uh (P:Nat->Nat->Bool):∀ m,∀ r∈ki P m,iT r
 | 0=>BI
 | m+1=>by
  have a:=uh P m;unfold ki;split
  ·have:=Da (uz a (m / 48)) (nd m (by omega:48>0));exact NV a _ ⟨by omega,this.2⟩
  ·exact a
theorem Oi (P:Nat->Nat->Bool):∀ m,m<=1152->∀ j,j<m->P (j / 48) (j % 48)=true->kT (ki P m)=false
 | 0,_,j,h,_=>by omega
 | m+1,hm,j,hj,a=>by
  have b:=Oi P m ar j;unfold ki;split
  ·have h1:=Da (uz (uh P m) (m / 48)) (nd m (by omega:48>0));have hl:=kr P m;unfold kT;rw [RW];refine ⟨_,List.mem_set (by omega:m / 48<(ki P m).length) _,?_⟩;grind
  grind
theorem I5 {l:List Int} (hl:l.length=24) (h:∀ r∈l,iT r):oq l=true:=by
 unfold oq;rw [hl]
 have:(l.any fun r => !y4 r)=false:=by
  rw [eJ];intro r a;have ⟨h1,h2⟩:=h r a;simp [y4,cQ,h1,h2]
 rw [this]; rfl
theorem OE:∀ (l:List Int) (k:Nat),(∀ r∈l,iT r)->kT l=false->0<(PZ k l).length
 | [],k,_,h=>by simp [kT] at h
 | r::l,k,a,h=>by
  simp only [PZ,bY];by_cases e:r=0
  ·subst e;have:=OE l (k+1) (fun x hx=>a x (a6 _ hx)) (by simpa [kT] using h);omega
  ·have h1:=(a r (a7 ..)).1;have:nB r.toNat=_:=IX (by omega:r.toNat≠0);have h2:0<(A6 k r).length:=by unfold A6; rw [az,this]; simp
   omega
theorem My {l:List Int} (hl:l.length=24) (h:∀ r∈l,iT r) (hz:kT l=false):0<zW l:=by
 have:=OE l 0 h hz;unfold zW;rw [aX (I5 hl h)];unfold iE;omega
theorem Oh:∀ (l:List (Int×Int×Int)) (a:List Int),a.length=24->(∀ r∈a,iT r)->(∀ p∈l,0<=p.1/\p.1<=47/\0<=p.2.1/\p.2.1<=23)->(∀ r∈sX a l,iT r)/\(∀ i c,(a.getD i 0).toNat.testBit c=true->((sX a l).getD i 0).toNat.testBit c=true)/\∀ p∈l,((sX a l).getD p.2.1.toNat 0).toNat.testBit p.1.toNat=true
 | [],a,_,hz,_=>⟨hz,fun _ _ h=>h,fun _ h=>nomatch h⟩
 | p::l,a,hl,hz,b=>by
  obtain ⟨h1,h2,o,t⟩:=b p (a7 ..);obtain ⟨c,n⟩:=jz h1;have f:=uz hz p.2.1.toNat;have d:=Da f (by omega:c<48);have m:=Wn f (by omega:c<48);rw [<- n] at d m;have e:sX a (p::l)=sX (a.set p.2.1.toNat (SJ (a.getD p.2.1.toNat 0) p.1)) l:=rfl;obtain ⟨g1,g2,g3⟩:=Oh l _ (by grind) (NV hz p.2.1.toNat ⟨by omega,d.2⟩) fun q j=>b q (a6 _ j);rw [e];refine ⟨g1,fun i k h=>g2 i k ?_,fun q j=>?_⟩
  ·grind
  grind
theorem Xb {a:List Int} {r c:Nat} (h:iT (a.getD r 0)) (d:c<48):MK a r c=if (a.getD r 0).toNat.testBit c then 1 else 0:=by
 unfold MK;generalize a.getD r 0=x at *;obtain ⟨b,h1⟩:=h;grind
theorem I7 {o:Nat->Int} {a b k late:Int} (h:Az o a b k late):(∀ r∈nC o a b k late,iT r)/\∀ p∈Lq o a b k late,((nC o a b k late).getD p.2.1.toNat 0).toNat.testBit p.1.toNat=true:=by
 obtain ⟨h1,_,d⟩:=Oh (Lq o a b k late) tE rfl BI fun p c=>by have:=h.rng p c; omega
 exact ⟨h1,d⟩
theorem IT {o:Nat->Int} {a b k:Int} (h:Az o a b k 0):∀ n,n<=(2*o 6+1).toNat->∀ j,0<=rg o a b k n j/\rg o a b k n j<=n/\(0<n->((nC o a b k (-(o 6))).getD (j / 48) 0).toNat.testBit (j % 48)=true->0<rg o a b k n j)
 | 0,_,j=>⟨by simp [rg],by simp [rg],fun h=>by omega⟩
 | n+1,m,j=>by
  obtain ⟨h1,h2,l⟩:=IT h n ar j;have i:=h.s1;have f:=Xb (c:=j % 48) (uz (I7 (h.late (-(o 6)+(n:Int)) ar ar)).1 (j / 48)) (nd _ ar);have e:rg o a b k (n+1) j=bW (rg o a b k n j+MK (nC o a b k (-(o 6)+(n:Int))) (j / 48) (j % 48)):=rfl
  have d:MK (nC o a b k (-(o 6)+(n:Int))) (j / 48) (j % 48)=0\/MK (nC o a b k (-(o 6)+(n:Int))) (j / 48) (j % 48)=1:=by
   rw [f]; split
   ·exact .inr rfl
   ·exact .inl rfl
  rw [e,aZ ar ar];grind
theorem HS {o:Nat->Int} {a b k:Int} (h:Az o a b k 0):oq (ub o a b k)=true/\0<zW (ub o a b k):=by
 have l:=h.s1;have j:=h.l0
 have key:(ub o a b k).length=24/\(∀ r∈ub o a b k,iT r)/\kT (ub o a b k)=false:=by
  unfold ub;split
  ·refine ⟨kr _ _,uh _ _,?_⟩;have f:=h.late (-(o 6)) ar ar;have hm:A0 o k (-(o 6)) (a+((0:Nat):Int))∈Lq o a b k (-(o 6)):=bp.2 ⟨0,bB.2 (by have:=h.ab; omega),rfl⟩;obtain ⟨g1,g2,g3,g4,_⟩:=f.rng _ hm;have d:=(I7 f).2 _ hm;generalize A0 o k (-(o 6)) (a+((0:Nat):Int))=p at *;obtain ⟨x,hx⟩:=jz g1;obtain ⟨y,hy⟩:=jz g3;rw [hx,hy,eK,eK] at d;show kT (ki (fun r c=>decide (rg o a b k (2*o 6+1).toNat (48*r+c)>0)) 1152)=false;refine Oi _ 1152 (ba _) (48*y+x) ar ?_;have i:(48*y+x) / 48=y:=by omega
   have e:(48*y+x) % 48=x:=by omega
   rw [i,e];have:=(IT h (2*o 6+1).toNat (ba _) (48*y+x)).2.2 ar (by rw [i,e]; exact d);grind
  ·rename_i hz;exact ⟨kr _ _,uh _ _,by simpa using hz⟩
 exact ⟨I5 key.1 key.2.1,My key.1 key.2.1 key.2.2⟩
open Go Go.AI
set_option maxRecDepth 10000
structure bS where
 t0:Int
 orbs:List (Nat->Int)
 sq:List (Nat->Int)
 pss:List (List (Int×Int×Int))
 opts:List (List R5)
 ords:List (Nat->Int)
 buns:List (Int×Int×Int)
 quo:List Int
 loss:Int
 prom:Int
def fM (d:bS):List AV:=[.int .i64 d.t0,.sl .no 7 (d.orbs.map d8),.sl .no 4 (d.sq.map yA),.sl .no 1 (d.pss.map fun z=>[.sl .no 3 (z.map gV)]),.sl .no 1 (d.opts.map fun z=>[.sl .no 5 (z.map gU)]),.sl .no 4 (d.ords.map yA),.sl .no 3 (d.buns.map gV),bu d.quo,.int .i64 d.loss,.int .i64 d.prom]
def fF (d:bS) (i:Nat):nY:=Zy (i:Int) (fun j=>match j with | 0=>(i:Int) | 1=>(i:Int) | 2=>(i:Int) | _=>IntKind.i64.wrap (d.loss+(i:Int)))
def Qf (d:bS):Int:=aF d.t0 5000
def fy (d:bS):List (Nat->Int):=HM (d.orbs.take 2) d.sq
def nh (d:bS) (i:Nat):Nat->Int:=(fy d).getD i iM
def uu (p:bQ) (l:List bQ):List bQ:=l.takeWhile (fun x => !kl p x)++p::l.dropWhile (fun x => !kl p x)
theorem Tb (p:bQ) (l:List bQ):(uu p l).length=l.length+1:=by
 have:=ax List.length (R7 (p:=fun x => !kl p x) (l:=l));grind [uu,List.length_append,List.length_cons]
theorem NQ {α:Type} {q:α->Bool}:∀ {l:List α} {i:Nat},(∀ y∈l.take i,q y=true)->(∀ h:i<l.length,q l[i]=false)->l.takeWhile q=l.take i/\l.dropWhile q=l.drop i
 | [],i,_,_=>by simp
 | a::l,0,_,hx=>by
  have:=hx (Nat.succ_pos _);simp only [List.getElem_cons_zero] at this;simp [Le,Li,this]
 | a::l,i+1,h,hx=>by
  have h1:=h a cU
  have ⟨h2,b⟩:=NQ (l:=l) (i:=i) (fun y hy=>h y (by simp [hy])) fun g=>by
   have:=hx (Nat.succ_lt_succ g);simpa using this
  simp [Le,Li,h1,h2,b]
theorem Wz {p:bQ} {l:List bQ} {i:Nat} (a:∀ y∈l.take i,kl p y=false) (hx:∀ h:i<l.length,kl p l[i]=true):uu p l=l.take i++p::l.drop i:=by
 grind [NQ,uu]
def Ba (d:bS) (i:Nat):List bQ:=mh (nh d i 0) (Qf d) (d.pss.getD i [])
def td (a:List bQ) (l:List bQ):List bQ:=l.foldl (fun a p=>uu p a) a
def R0 (d:bS) (n:Nat):List bQ:=(List.range n).foldl (fun ps i=>td ps (Ba d i)) []
theorem uF (d:bS) (n:Nat):R0 d (n+1)=td (R0 d n) (Ba d n):=by simp [R0,dJ,cV]
theorem PW {a l:List bQ} {k:Nat} (h:k<l.length):td a (l.take (k+1))=uu (l.getD k p9) (td a (l.take k)):=by
 rw [dz p9 h,td,cV]; rfl
theorem Iv (l:List bQ):∀ a:List bQ,(td a l).length=a.length+l.length:=by
 induction l with
 | nil=>intro a; simp [td]
 | cons x l b=>grind [uu,td,List.length_cons,Tb]
theorem H3 (s f:Int) (z:List (Int×Int×Int)):(lr s f z).2.length<=z.length:=by
 suffices h:∀ (z:List (Int×Int×Int)) (r:Int×List bQ),(z.foldl (iv s) r).2.length<=r.2.length+z.length from by
  grind [lr]
 intro z
 induction z with
 | nil=>intro r; simp
 | cons x z a=>
  grind [iv,List.length_cons]
theorem IP (d:bS) (i:Nat):(Ba d i).length<=6:=by
 grind [H3,nh,Qf,List.length_take,Ba,mh]
theorem DJ (d:bS):∀ n,(R0 d n).length<=6*n
 | 0=>by simp [R0]
 | n+1=>by have:=DJ d n; have:=IP d n; rw [uF,Iv]; omega
def Qe (d:bS):Nat:=min (fy d).length d.pss.length
def fz (d:bS):List bQ:=R0 d (Qe d)
def Bb (d:bS) (i:Nat):List d4:=H8 (nh d i) (fz d) (aF d.t0 5000) (10*((i:Int)+1)) ((d.opts.getD i []).take 4)
def DK (d:bS) (n:Nat):List d4:=(List.range n).flatMap (Bb d)
def nk (d:bS):Nat:=min (fy d).length d.opts.length
def cB (d:bS):List d4:=DK d (nk d)
theorem zR (d:bS) (n:Nat):DK d (n+1)=DK d n++Bb d n:=by simp [DK,dJ]
theorem IQ (d:bS) (i:Nat):(Bb d i).length<=4:=by
 grind [s5,nh,fz,aF,Int,min,List.length_take,Bb,H8]
theorem uG (d:bS):∀ n,(DK d n).length<=4*n
 | 0=>by simp [DK]
 | n+1=>by have:=uG d n; have:=IQ d n; rw [zR,bY]; omega
def wG (d:bS) (o:d4):Nat:=(pY (fy d) o.sat).toNat
def Cv (d:bS) (i:Nat):Nat->Int:=d.ords.getD i z4
def zQ (i:Nat) (o:d4):Bool:=decide (o.ord=(i:Int))
def TR (d:bS) (i k:Nat):kM:=
 ⟨i,aF (Cv d i 0) 3,xu (kj (nh d (wG d ((cB d).getD k dt)))) ((cB d).getD k dt).a ((cB d).getD k dt).b ((cB d).getD k dt).look (Cv d i),aF (Cv d i 1) 1000,
  IntKind.i64.wrap (aF (IntKind.i64.wrap ((Cv d i 2).tdiv 4)) 3 - 1),aF (Cv d i 3) 3==0,aF d.t0 5000,IntKind.i64.wrap (IntKind.i64.wrap (aF d.t0 5000+100)+aF (Cv d i 3) 101)⟩
def A9 (d:bS) (i:Nat):List kM:=match (cB d).findIdx? (zQ i) with | none=>[] | some k=>[TR d i k]
def Hn (d:bS) (n:Nat):List kM:=(List.range n).flatMap (A9 d)
theorem zP (d:bS) (n:Nat):Hn d (n+1)=Hn d n++A9 d n:=by simp [Hn,dJ]
theorem pm (d:bS):∀ n,(Hn d n).length<=n
 | 0=>by simp [Hn]
 | n+1=>by
  have:=pm d n;have h:(A9 d n).length<=1:=by unfold A9; split <;> simp
  rw [zP,bY]; omega
def d7 (d:bS):List kM:=Hn d 4
def yh (l:List d4) (i j:Nat):Int:=match (l.drop j).findIdx? (zQ i) with | some m=>((j+m:Nat):Int) | none => -1
theorem Ts (l:List d4) (i:Nat):yh l i l.length = -1:=by simp [yh]
theorem P8 {l:List d4} {i j:Nat} (h:j<l.length):yh l i j=if zQ i (l.getD j dt) then (j:Int) else yh l i (j+1):=by
 unfold yh;rw [dq h,List.findIdx?_cons,aK,ai h,lL];grind
theorem P7 (l:List d4) (i:Nat):yh l i 0=match l.findIdx? (zQ i) with | some m=>(m:Int) | none => -1:=by
 grind [yh,zQ]
def lX (u:jY):List AV:=[.int .i64 u.ord,.sl .full 1 (u.opts.map fun h=>[.int .i64 h])]
theorem tK {α:Type} {o:Go.AI.Own} {n:Nat} {f q:α->List AV} (l:List α) (u:∀ x∈l,bD (f x) (q x)) (G:∀ x∈l,∀ c∈q x,c.isCell=true) (F:∀ k,o≠.id k):(AV.sl o n (l.map f)).weak (.sl .no n (l.map q)):=fun m v h=>by
 cases h with
 | sl _ _ _ base len cap _ hf hlen a B p b off w g hm D=>
  have t:∀ (i:Nat) (x:List AV),(l.map q)[i]?=some x->∃ y,l[i]?=some y/\x=q y/\(l.map f)[i]?=some (f y)/\y∈l:=fun i x hx=>by
   grind
  refine .sl _ _ _ _ _ _ (by intro k d; cases d) (by intro d; cases d) (by grind) a (fun x hx=>?_) (fun x hx c z=>?_) b off w g (fun i x j c h1 h2=>?_) (fun i x j c h1 h2=>?_)
  ·obtain ⟨i,hi⟩:=cn hx;obtain ⟨y,_,rfl,r,e⟩:=t i x hi;rw [<- (u y e).spec.1];grind
  ·grind
  all_goals
   obtain ⟨y,_,rfl,r,e⟩:=t i x h1;obtain ⟨E,A⟩:=(u y e).spec;have hj:j<(f y).length:=by rw [E]; exact (am.1 h2).1
   have hx:=ai hj
   first
    | exact hm i _ j _ r hx
    | exact A j _ c hx h2 m _ (D i _ j _ r hx)
def om (d:bS) (n:Nat):List jY:=(List.range n).map fun i=>⟨((cB d).getD i dt).ord,[(i:Int)]⟩
theorem Qi (d:bS) (n:Nat):om d (n+1)=om d n++[⟨((cB d).getD n dt).ord,[(n:Int)]⟩]:=by simp [om,dJ]
theorem TS (d:bS) (n:Nat):(om d n).length=n:=by simp [om]
def mP (l:List d4) (a b:Int):List jY:=if (l.getD a.toNat dt).ord=(l.getD b.toNat dt).ord/\a<b then [⟨(l.getD a.toNat dt).ord,[a,b]⟩] else []
def lC (l:List d4) (B:List jY) (z:Int×Int×Int):List jY:=if l.length>1/\B.length<10 then B++mP l (aF z.1 l.length) (aF z.2.1 l.length) else B
def rf (d:bS):Nat:=min (cB d).length 7
def mo (d:bS) (n:Nat):List jY:=(d.buns.take n).foldl (lC (cB d)) (om d (rf d))
def vO (d:bS):List jY:=d.buns.foldl (lC (cB d)) (om d (rf d))
theorem OW (d:bS) (a:(fy d).length<=2):(cB d).length<=8:=by
 have:=uG d (nk d);have h:nk d<=(fy d).length:=dP _ _;show (DK d (nk d)).length<=_;omega
theorem DM {d:bS} {i:Nat} (h:i<d.buns.length):mo d (i+1)=lC (cB d) (mo d i) (d.buns.getD i (0,0,0)):=by
 unfold mo;rw [dz (0,0,0) h,cV]; rfl
theorem Qg {d:bS} {i:Nat} (h:i<d.buns.length) (h1:(cB d).length>1) (h2:(mo d i).length<10):mo d (i+1)=mo d i++mP (cB d) (aF (d.buns.getD i (0,0,0)).1 (cB d).length) (aF (d.buns.getD i (0,0,0)).2.1 (cB d).length):=by
 rw [DM h,lC,aX ⟨h1,h2⟩]
theorem Py (l:List d4) (a b:Int):(mP l a b).length<=1:=by unfold mP; split <;> simp
theorem zS (d:bS):∀ i,i<=d.buns.length->(mo d i).length<=10
 | 0,_=>by
  have h:rf d<=7:=gR _ _;have:(mo d 0).length=rf d:=by simp [mo,om]
  omega
 | i+1,h=>by
  have a:=zS d i ar;rw [DM ar,lC];split
  ·rename_i b;have:=Py (cB d) (aF (d.buns.getD i (0,0,0)).1 (cB d).length) (aF (d.buns.getD i (0,0,0)).2.1 (cB d).length);rw [bY]; omega
  ·exact a
theorem Qh {d:bS} {i:Nat} (hi:i<=d.buns.length) (h:¬ (i<d.buns.length/\(cB d).length>1/\(mo d i).length<10)):mo d i=vO d:=by
 by_cases hl:i<d.buns.length
 ·have a:∀ k,mo d (i+k)=mo d i:=by
   intro k
   induction k with
   | zero=>rfl
   | succ k c=>
    by_cases b:i+k<d.buns.length
    ·rw [<- dV,DM b,c,lC,aV (fun g=>h ⟨hl,g⟩)]
    grind [mo,vO,List.take_of_length_le]
  have:=a (d.buns.length - i);grind [mo,vO,List.take_length]
 grind [mo,vO,List.take_of_length_le]
def T8 (m:Int) (i:Nat):Bool:=((aF m 16).fdiv (2 ^ min (i:Int).toNat 64)).tmod 2==1
def vN (d:bS) (n:Nat):List Int:=((List.range n).filter (T8 d.prom)).map fun i=>((d7 d).getD i jO).id
theorem DL (d:bS) (n:Nat):(vN d n).length<=n:=by
 unfold vN;grind
def quoI (d:bS) (i:Nat):Int:=if i<d.quo.length then aF (d.quo.getD i 0) 20 else 12
def yi (d:bS) (n:Nat):List Int:=(List.range n).map (quoI d)++List.replicate (16 - n) 0
theorem uE (d:bS) {n:Nat} (h:n<=16):(yi d n).length=16:=by simp [yi]; omega
theorem Sy {α:Type} (a b:α):∀ (l:List α) (i:Nat),dD (dD l i a) i b=dD l i b
 | [],_=>rfl
 | _::_,0=>rfl
 | x::l,i+1=>by simp only [dD]; rw [Sy a b l i]
theorem W5 (d:bS) {i:Nat} (h:i<16):dD (yi d i) i (quoI d i)=yi d (i+1):=by
 have hl:((List.range i).map (quoI d)).length=i:=by simp
 have h1:=BU (quoI d i) ((List.range i).map (quoI d)) (0::List.replicate (15 - i) 0);rw [hl] at h1;unfold yi;rw [show 16 - i=(15 - i)+1 by omega,List.replicate_succ,h1,dJ,c7,show 16 - (i+1)=15 - i by omega];simp [dD]
structure xY (d:bS):Prop where
 orb:∀ x∈d.orbs,bW (2*bW (10+aF (x 0) 90))≠0
 sat:∀ i,i<(fy d).length->0<=nh d i 0/\nh d i 0<=23
 slen:(fy d).length<=2
 fr:0<=aF d.t0 5000/\aF d.t0 5000<=900000
 pss:∀ z∈d.pss,∀ x∈z,uv x
 oh:∀ i,i<(fy d).length->Za (nh d i) (fz d) (aF d.t0 5000) (10*((i:Int)+1))
 ops:∀ z∈d.opts,∀ x∈z,wv x
 goal:∀ o∈cB d,pY (fy d) o.sat=((wG d o:Nat):Int)/\wG d o<(fy d).length/\Az (kj (nh d (wG d o))) o.a o.b o.look 0/\g9 (kj (nh d (wG d o))) o.a o.b o.look=true
 bl:d.buns.length<=9223372036854775807
 bi:∀ z∈d.buns,uv z
 qi:∀ x∈d.quo,nR x
def ir (d:bS):eo:=⟨fy d,(List.range 3).map (fF d),fz d,d7 d,cB d,vO d,vN d (d7 d).length,yi d 16,aF d.loss 3,aF d.t0 5000,IntKind.i64.wrap (aF d.t0 5000+200)⟩
open Go Go.AI
set_option maxRecDepth 100000
structure cK (d:bS):Prop where
 t0:nR d.t0
 orbs:∀ x∈d.orbs,∀ i,nR (x i)
 sq:∀ x∈d.sq,∀ i,nR (x i)
 pss:∀ z∈d.pss,∀ x∈z,uv x
 opts:∀ z∈d.opts,∀ x∈z,wv x
 ords:∀ x∈d.ords,∀ i,nR (x i)
 buns:∀ z∈d.buns,uv z
 bl:d.buns.length<=9223372036854775807
 quo:∀ x∈d.quo,nR x
 loss:nR d.loss
 prom:nR d.prom
theorem PX:nR 0:=by unfold nR; omega
theorem zH {l:List (Nat->Int)} (h:∀ x∈l,∀ i,nR (x i)) (i:Nat) {e:Nat->Int} (he:∀ j,nR (e j)) (j:Nat):nR (l.getD i e j):=by
 rw [aK]
 cases hx:l[i]? with
 | none=>exact he j
 | some x=>exact h x (aC hx) j
theorem V8 {id:Int} {x y:Nat->Int} (hx:∀ i,nR (x i)) (hy:∀ i,nR (y i)) (a:nR id):kP (Pn id x y)=true:=by
 have h:=(⟨x,y,[],0,0,hx,hy,by simp,PX,PX⟩:rF).sat;obtain ⟨h1,h2⟩:=bN a (n:=24) ar
 have b:cQ (Pn id x y 0) 0 23=true:=by
  show cQ (aF id 24) 0 23=true;simp only [cQ,al,aP];omega
 unfold kP at h ⊢;simp only [al] at h ⊢;exact ⟨⟨⟨⟨b,h.1.1.1.2⟩,h.1.1.2⟩,h.1.2⟩,h.2⟩
theorem jJ (d:bS):(fy d).length=min d.orbs.length 2:=by
 simp [fy,HM]; omega
theorem TQ (d:bS) {i:Nat} (h:i<(fy d).length):nh d i=Pn (2*(i:Int)+1) ((d.orbs.take 2).getD i iM) (d.sq.getD i z4):=by
 unfold nh fy HM;rw [fy,HM] at h;rw [aK,ai h,lL,List.getElem_map,List.getElem_range];rfl
theorem cK.satOK {d:bS} (h:cK d) {i:Nat} (hi:i<(fy d).length):kP (nh d i)=true:=by
 rw [TQ d hi];have hl:=jJ d;exact V8 (fun j=>zH (fun x hx=>h.orbs x (dy hx)) i (fun _=>PX) j) (fun j=>zH h.sq i (fun _=>PX) j) (by unfold nR; omega)
theorem cK.id {d:bS} {i:Nat} (hi:i<(fy d).length):nh d i 0=2*(i:Int)+1:=by
 rw [TQ d hi];have hl:=jJ d;show aF (2*(i:Int)+1) 24=_;unfold aF;grind
theorem SY {p x:bQ} {l:List bQ}:x∈uu p l↔x=p\/x∈l:=by
 grind [uu,List.takeWhile_append_dropWhile]
theorem Ii {x:bQ}:∀ {l a:List bQ},x∈td a l↔x∈a\/x∈l
 | [],a=>by simp [td]
 | p::l,a=>by
  show x∈td (uu p a) l↔_;rw [Ii,SY,bF];constructor
  ·rintro ((h | h) | h)
   ·exact .inr (.inl h)
   ·exact .inl h
   ·exact .inr (.inr h)
  ·rintro (h | h | h)
   ·exact .inl (.inr h)
   ·exact .inl (.inl h)
   ·exact .inr h
theorem Dj {d:bS} {x:bQ}:∀ {n:Nat},x∈R0 d n->∃ i,i<n/\x∈Ba d i
 | 0,h=>by simp [R0] at h
 | n+1,h=>by
  rw [uF] at h;rcases Ii.1 h with h | h
  ·obtain ⟨i,h1,h2⟩:=Dj h;exact ⟨i,by omega,h2⟩
  ·exact ⟨n,by omega,h⟩
theorem cK.from_ {d:bS} (h:cK d):0<=aF d.t0 5000/\aF d.t0 5000<5000:=bN h.t0 ar
theorem cK.passOf {d:bS} (h:cK d) {i:Nat} (hi:i<Qe d):jq (Ba d i)=true/\(Ba d i).length<=6/\∀ p∈Ba d i,Qf d<=p.sa/\p.sa<p.sb/\p.sb<=Qf d+186:=by
 have h1:i<(fy d).length:=dm hi (dP _ _);have h2:i<d.pss.length:=dm hi (gR _ _);have hl:=jJ d;have hf:=h.from_;exact Pu (by rw [cK.id h1]; omega) (by grind [aF,Qf]) (h.pss _ (c8 [] h2))
theorem cK.pass {d:bS} (h:cK d) {p:bQ} (a:p∈fz d):Qf d<=p.sa/\p.sa<p.sb/\p.sb<=Qf d+186:=by
 obtain ⟨i,hi,hm⟩:=Dj a;exact (h.passOf hi).2.2 p hm
theorem pV {d:bS}:(fz d).length<=12:=by
 have h1:=DJ d (Qe d);have h2:Qe d<=(fy d).length:=dP _ _;have a:=jJ d;show (R0 d (Qe d)).length<=12;omega
theorem cK.optH {d:bS} (h:cK d) {i:Nat} (hi:i<(fy d).length):Za (nh d i) (fz d) (aF d.t0 5000) (10*((i:Int)+1)):=by
 obtain ⟨h1,h2,b,_⟩:=ZF (h.satOK hi);have hl:=jJ d;have hf:=h.from_;refine ⟨h1,h2,b,by omega,by omega,bC pV ar,fun p a=>?_⟩;have:=h.pass a;unfold Qf at this;omega
theorem cK.orb {d:bS} (h:cK d):∀ x∈d.orbs,bW (2*bW (10+aF (x 0) 90))≠0:=fun x hx=>by
 obtain ⟨h1,h2⟩:=bN (h.orbs x hx 0) (n:=90) ar;grind [aZ,aF]
theorem cK.optOf {d:bS} (h:cK d) {o:d4} (b:o∈cB d):∃ i,i<(fy d).length/\jp (nh d i) (fz d) o=true/\aF d.t0 5000<=o.a/\10*((i:Int)+1)<=o.id/\o.id<10*((i:Int)+1)+4:=by
 obtain ⟨i,hi,hm⟩:=pT.1 b;have hi:=bB.1 hi;have h1:i<(fy d).length:=dm hi (dP _ _);have h2:i<d.opts.length:=dm hi (gR _ _);have hz:∀ x∈(d.opts.getD i []).take 4,wv x:=fun x hx=>h.opts _ (c8 [] h2) x (dy hx);have hl:((d.opts.getD i []).take 4).length<=4:=Lg _ _;obtain ⟨g1,g2,g3,g4⟩:=o3 (s:=nh d i) (ps:=fz d) (from_:=aF d.t0 5000) (id:=10*((i:Int)+1)) hz (min ((d.opts.getD i []).take 4).length 5) (dP _ _) o hm;grind
theorem SA {l:List (Nat->Int)} {i:Nat} (hi:i<l.length) (a:∀ j (hj:j<l.length),l[j] 0=l[i] 0->j=i):pY l (l[i] 0)=(i:Int):=by
 unfold pY
 have h:l.findIdx? (fun x=>decide (x 0=l[i] 0))=some i:=by
  rw [iC];refine ⟨hi,by simp,fun j hj=>?_⟩;simp only [aP];intro e;have:=a j ar e;omega
 rw [h]
theorem pj (d:bS) {i:Nat} (h:i<(fy d).length):(fy d)[i]=nh d i:=by
 unfold nh;grind
theorem XX (d:bS) {i:Nat} (h:i<(fy d).length):pY (fy d) (nh d i 0)=(i:Int):=by
 rw [<- pj d h];refine SA h fun j hj e=>?_;rw [pj d hj,pj d h,cK.id hj,cK.id h] at e;omega
theorem BZ {s:Nat->Int} {ps:List bQ} {o:d4} (h:jp s ps o=true):o.sat=s 0/\g9 (mi s) o.a o.b o.look=true:=by
 simp only [jp,js,ux,tY,al] at h;grind
theorem cK.goal {d:bS} (h:cK d):∀ o∈cB d,pY (fy d) o.sat=((wG d o:Nat):Int)/\wG d o<(fy d).length/\Az (kj (nh d (wG d o))) o.a o.b o.look 0/\g9 (kj (nh d (wG d o))) o.a o.b o.look=true:=fun o e=>by
 obtain ⟨i,hi,c,_⟩:=h.optOf e;obtain ⟨h1,h2⟩:=BZ c;have j:wG d o=i:=by unfold wG; rw [h1,XX d hi]; rfl
 rw [j,h1,XX d hi]
 have f:0<=mi (nh d i) 6:=by
  simp only [g9,al] at h2;exact ((lE _).1 h2.1.1).s1
 exact ⟨rfl,hi,Az.of h2 ar f,h2⟩
theorem cK.toH {d:bS} (h:cK d):xY d where
 orb:=h.orb
 sat:=fun i hi=>by
  grind [cK.id,jJ]
 slen:=by rw [jJ]; omega
 fr:=by have:=h.from_; omega
 pss:=h.pss
 oh:=fun i hi=>h.optH hi
 ops:=h.opts
 goal:=h.goal
 bl:=h.bl
 bi:=h.buns
 qi:=h.quo
open Go Go.AI
set_option maxRecDepth 100000
def Ig {α:Type} (le:α->α->Bool):Nat->List α->List α->List α
 | 0,xs,a=>xs++a
 | _+1,[],a=>a
 | _+1,x::xs,[]=>x::xs
 | n+1,x::xs,y::a=>bif le x y then x::Ig le n xs (y::a) else y::Ig le n (x::xs) a
theorem Di {α:Type} (le:α->α->Bool):∀ (n:Nat) (xs a:List α),xs.length+a.length<=n->Ig le n xs a=List.merge xs a le
 | 0,[],[],_=>by simp [Ig]
 | 0,_::_,_,h=>by simp at h
 | 0,[],_::_,h=>by simp at h
 | _+1,[],a,_=>by simp [Ig]
 | _+1,x::xs,[],_=>by simp [Ig]
 | n+1,x::xs,y::a,h=>by
  rw [Ig,List.merge];simp only [bt] at h
  cases le x y with
  | true=>simp only [aR,c5]; rw [Di le n xs (y::a) (by simp only [bt]; omega)]
  | false=>simp only [br,bv,cu]; rw [Di le n (x::xs) a (by simp only [bt]; omega)]
def Ws {α:Type} (le:α->α->Bool):Nat->List α->List α
 | 0,l=>l
 | _+1,[]=>[]
 | _+1,[a]=>[a]
 | n+1,a::b::l=>Ig le (l.length+2) (Ws le n ((a::b::l).take ((l.length+3) / 2))) (Ws le n ((a::b::l).drop ((l.length+3) / 2)))
theorem Mb {α:Type} (le:α->α->Bool):∀ (n:Nat) (l:List α),l.length<=n->l.mergeSort le=Ws le n l
 | 0,[],_=>by simp [Ws]
 | 0,_::_,h=>by simp at h
 | _+1,[],_=>by simp [Ws]
 | _+1,[a],_=>by simp [Ws]
 | n+1,a::b::l,h=>by
  simp only [bt] at h;rw [Ws,List.mergeSort];simp only [List.MergeSort.Internal.splitInTwo_fst,List.MergeSort.Internal.splitInTwo_snd,bt];have h1:((a::b::l).take ((l.length+3) / 2)).length<=n:=by simp only [dA,bt]; omega
  have h2:((a::b::l).drop ((l.length+3) / 2)).length<=n:=by simp only [ym,bt]; omega
  rw [<- Mb le n _ h1,<- Mb le n _ h2,Di];simp only [BF,dA,ym,bt];omega
theorem Yo {α:Type} (le:α->α->Bool) (l:List α):l.mergeSort le=Ws le l.length l:=Mb le _ l (ba _)
theorem jA:sortI=fun l=>Ws (fun x y=>decide (x<=y)) l.length l:=funext fun l=>Yo _ l
open Go Go.AI
set_option maxRecDepth 100000
theorem ZO (x:Nat->Int) (hx:CL x []) (l:0<=x 18) {a b:Int} (d:b - a<=3000):Dr x [] a b = -1:=by
 have c:∀ n,hv (gS x []) a n=0:=by
  intro n
  induction n with
  | zero=>rfl
  | succ n j=>
   rw [hv,j,XS hx];have h1:=hx.c0;have h2:kR (a+(n:Int)) ([]:List fJ)=0:=rfl;rw [h2];omega
 have e:(qS x [] a b).any (fun h=>decide (h>x 18))=false:=by
  rw [Th hx d,eJ];intro h hm;obtain ⟨i,_,rfl⟩:=bp.1 hm;rw [c];simp;omega
 have f:=zB (fun h=>decide (h>x 18)) (qS x [] a b) 0;rw [e] at f;unfold Dr;grind
open Go Go.AI
def fL:Nat->Int:=fun i=>match i with
 | 2=>2000 | 4=>11000 | 5=>13000 | 7 => -33 | 9=>2 | 10=>12 | 11=>1000 | 12=>10 | 13=>4 | 14=>20 | 15=>9 | 16=>5 | 17=>1 | 18=>100 | 19=>1 | 20=>2
 | _=>0
def Zm:List Int:=[0,0,0,0,0,0,0,0,0,0,0,1,0,0,0,0,0,0,0,0,0,0,0,0]
def Lt:gp:=⟨Zm,0,50,0,90,false⟩
def Zn:kM:=⟨7,1,gA Lt,0,-1,false,0,100⟩
def qc:d4:=⟨4,7,0,0,5,8,1,6,[⟨0,20,23⟩,⟨1,50,53⟩]⟩
def ql:d4:=⟨5,7,0,0,9,11,0,6,[⟨0,23,26⟩,⟨1,53,56⟩]⟩
def exQ:List Int:=[0,3,0,0,0,0,0,0,0,0,0,0,0,0,0,0]
def dB:eo:=⟨[fL],[⟨0,0,0,0,1,0⟩],[⟨0,0,20,30,20,30⟩,⟨0,0,50,60,50,60⟩],[Zn],[qc,ql],[⟨7,[0]⟩,⟨7,[1]⟩],[7],exQ,1,0,100⟩
open Go Go.AI
set_option maxRecDepth 100000
theorem IF:dB.Fit where
 sats:=by decide +kernel
 stas:=by decide +kernel
 passes:=by decide +kernel
 ords:=by decide +kernel
 opts:=by decide +kernel
 buns:=by decide +kernel
 prom:=by decide +kernel
 quo:=by decide +kernel
 slots:=by decide +kernel
 bopts:=by decide +kernel
 goals:=fun o a=>by
  have:o=Zn:=by simpa [dB] using a
  subst this;exact ma.S Lt (by decide +kernel)
 sl:=by decide +kernel
theorem YL:tX dB=true:=by decide +kernel
theorem zK:dB.Small:=IF.toSmall
open Go Go.AI
theorem Nx {p:Prop} (g:p:=by
 repeat' first
  | refine aJ.scopeEnds ?_
  | refine aJ.unroll 120 ?_
  | refine QE es rfl hG af kp ?_
  |((conv=>whnf); first
    | refine cX ?_
    | refine cW ?_
    | refine aa aI ?_
    | refine aa bq (ae _ (aa rfl ?_))
    | refine aa bq ?_
    | refine aa (ah rfl) ?_
    | refine ae _ (aa bf ?_)
    | refine ae _ (aa (by apply k1) ?_)
    | refine ae _ (aa (by apply k2) ?_)
    | refine ae _ (aa (by apply k3) ?_)
    | refine xE bf ?_
    | refine ae 5000000 (ae _ (ae _ (ae _ (aa (aa rfl (aa rfl rfl)) ?_))))
    | refine ae _ (aa rfl ?_)
    | refine ak ?_)
 all_goals (try (conv=>whnf))
 all_goals first
  | exact Ez
  | exact Ends.mk (bA rfl) (ay rfl)
  | exact gc.mk (bA rfl) (ae _ (ae _ (aa (aa rfl rfl) (aa (ak (ay rfl)) (aa aI aI)))))
  | exact gc.mk (ak rfl) (ae _ (ae _ (aa (aa rfl rfl) (aa (ak (ay rfl)) (aa aI aI)))))):p:=g
theorem dR {f:FuncId} {fn:Func} {body:Code} {args:List AV} {r:AV} (keep:List Nat) (hf:Tryz.prog.funcs[f]?=some fn) (hb:fn.body=some body:=by exact rfl) (hname:(fn.name == "runtime.NumGoroutine")=false:=by kernel_rfl) (hn:args.length<=fn.ntmps:=by exact ah rfl)
  (h:∀ (F:Fence) (n:Nat) (w0:World) (m0:dI),ce.OK ⟨Tryz.prog,F,n,w0,m0,fn.ntmps⟩->F.round=none->1<=n->KP keep->aJ ⟨Tryz.prog,F,n,w0,m0,fn.ntmps⟩ ⟨params 0 args,[]⟩ body (Go.AI.Ends jK fn.results.toList r):=by
   intro F n' w0 m0 hG hro h1 kp
   let es:List Nat:=[]
   exact Nx):aq Tryz.prog f args r:=aM keep hf h hb hname hn
theorem pQ {f:FuncId} {fn:Func} {body:Code} {N I:List Nat} {args:List AV} {L L':List (Nat×AV)} {r:AV} (keep:List Nat) (hf:Tryz.prog.funcs[f]?=some fn) (hb:fn.body=some body:=by exact rfl) (hname:(fn.name == "runtime.NumGoroutine")=false:=by kernel_rfl) (hn:args.length<=fn.ntmps:=by exact ah rfl)
  (h:∀ (F:Fence) (n:Nat) (w0:World) (m0:dI),ce.OK ⟨Tryz.prog,F,n,w0,m0,fn.ntmps⟩->F.round=none->9<=n->KP keep->aJ ⟨Tryz.prog,F,n,w0,m0,fn.ntmps⟩ ⟨BK L++params 0 args,[]⟩ body (gc jK fn.results.toList N I fun a b=>a=r/\b=L'):=by
   intro F n' w0 m0 hG hro h1 kp;exact Nx) (hkp:Mm N args body=true:=by rfl):bX Tryz.prog f N I args L r L':=lP.ofB af hf hb hname bh hn (fun F n w0 m0 h1 h2 h3=>h F n w0 m0 h1 h2 h3 .mk) hkp
theorem G9 {α:Type} {avs:α->List AV} {f:FuncId} {fn:Func} {body:Code} {cap:List AV} {items:List α} (keep:List Nat) (hf:Tryz.prog.funcs[f]?=some fn) (hb:fn.body=some body:=by exact rfl) (hname:(fn.name == "runtime.NumGoroutine")=false:=by kernel_rfl) (hn:cap.length+1<=fn.ntmps:=by exact ah rfl) (hres:fn.results=#[]:=by exact rfl)
    (h:∀ (F:Fence) (n:Nat) (m:dI) (l:Nat) (J:Nat->dI->World->Prop) (Jx:Nat->World->Prop),KP keep->YM.OK ⟨Tryz.prog,F,n,fn.ntmps,m,l,J,Jx,fun k x=>items[k]?=some x,fun k _=>k+1,avs⟩ ->
      io ⟨Tryz.prog,F,n,fn.ntmps,m,l,J,Jx,fun k x=>items[k]?=some x,fun k _=>k+1,avs⟩ (false,0) ⟨params 0 (.lit (.func (.yield l) #[] #[])::cap),[]⟩ body fun e g s=>iL items.length e g s:=by
      intro F n m y J Jx kp hY
      repeat' first
        | refine io.unroll 120 ?_
        | refine QM rfl hY af kp ?_
        | ((conv=>whnf); first
           | refine cX ?_
           | refine cW ?_
           | refine aa aI ?_
           | refine aa bq (ae _ (aa rfl ?_))
           | refine aa bq ?_
           | refine aa (ah rfl) ?_
           | refine ae _ (aa bf ?_)
           | (refine ae _ (aa rfl (aa rfl (fun t ht=>?_))); subst ht; refine aa ?_ ?_)
           | refine ak ?_)
      all_goals first | exact iL.mk (ak rfl) (bA rfl) | exact iL.mk (bA rfl) (ak rfl)):iA Tryz.prog avs f cap items:=iA.of hf hb hname bh hn hres fun F n m l J Jx hY=>h F n m l J Jx .mk hY
theorem kJ (x:Int) (b:0<=x) (h1:x<=18446744073709551615):aq Tryz.prog 121 [.int .u64 x] (.int .i64 (Lib.bitLen x.toNat)):=by
 refine ⟨AO Tryz.func121 aI rfl,fun m w vs c d hl a=>?_⟩
 obtain ⟨v,rfl⟩:∃ v,vs=[v]:=by
  match vs,hl with
  | [v],_=>exact ⟨v,rfl⟩
 have hv:v = .int .u64 x:=by
  have:=a 0 _ v rfl rfl;cases this; rfl
 subst hv;refine (Any.bits_Len { wP with } x w b h1).mono ?_;rintro e w' ⟨rfl,rfl⟩;exact ⟨_,m,rfl,.int _ _,.refl m,c,.refl _ _,⟨fun _ _ _ h => .inl h,fun _ _ h => .inl h⟩,.refl _⟩
end Go.Proofs
