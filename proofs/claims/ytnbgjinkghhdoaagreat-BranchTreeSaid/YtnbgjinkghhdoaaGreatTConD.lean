/- Contracts of the functions and plain facts about what they reckon, part 4: called with arguments that read so, each hands back what is typed. The conditions are those typed. -/
import Derived.Test.YtnbgjinkghhdoaaGreatTConC
import Derived.Lib.SlicesCompact
import Derived.Shelf.Lays
import Derived.Shelf.Lays2
set_option linter.unusedSectionVars false
set_option linter.unusedVariables false
set_option linter.unusedSimpArgs false
namespace Go.Proofs
open Go Go.AI
set_option maxRecDepth 10000
theorem sO (c n:Int) (hn:n≠0):ae Tryz.prog 8 [.int .i64 c,.int .i64 n] (.int .i64 (al c n)):=by
 refine ah aa Tryz.func8 rfl (by kernel_rfl) af (Nat.le_of_ble_eq_true rfl) ?_
 intro F n' w0 m0 hG hro h1
 repeat' first|refine QS rfl hG aa A8 ?_|((conv=>whnf); first|refine anF ?_|refine anT ?_|refine anK ?_|refine And.intro hn ?_|refine And.intro (fun h=>?_) (fun h=>?_)|refine Or.inl ?_)
 all_goals refine Ends.mk (Or.inl rfl) (ac (congrArg (AV.int .i64) ?_))
 all_goals (simp_all [al,w64] <;> omega)
end Go.Proofs
namespace Go.Proofs
open Go Go.AI
set_option maxRecDepth 10000
namespace bS
def ga (c:bS):Int:=al c.from_ 900000
def gb (c:bS):Int:=c.ga+240
def gps (c:bS):List ao:=gf (c.s 0) c.ga c.z
def gl (c:bS):List Opt:=BO c.s c.gps c.ga 10 c.v
end bS
theorem bS.grng (c:bS):0≤c.ga∧c.ga<900000:=aJ c.hf (n:=900000) (by omega)
theorem bS.gpasses (c:bS):cH c.gps=true∧c.gps.length≤6∧∀ p∈c.gps,c.ga≤p.sa∧p.sa<p.sb∧p.sb≤c.ga+186:=
 CJ (by rw [c.s0]; omega) (by have:=c.grng; omega) c.hz
theorem bS.goptH (c:bS):Jh c.s c.gps c.ga 10:=by
 obtain ⟨h1,h2,h3,_⟩:=BF c.sat
 have hr:=c.grng
 obtain ⟨p1,p2,p3⟩:=c.gpasses
 exact ⟨h1,h2,h3,by omega,by omega,by omega,fun p hp=>by have:=p3 p hp; omega⟩
theorem bS.glen (c:bS):c.gl.length≤5:=Nat.le_trans (mQ _ _ _ _ _ _) (Nat.min_le_right _ _)
theorem bS.gvalid (c:bS):a8 c.s c.gl c.gps c.ga c.gb=true:=by
 obtain ⟨p1,p2,p3⟩:=c.gpasses
 have hr:=c.grng
 have hl:=c.glen
 refine bz.2 ⟨by omega,by unfold bS.gb; omega,by unfold bS.gb; omega,c.sat,p1,fun o ho=>?_,ri c.hv _ (Nat.min_le_left _ _)⟩
 obtain ⟨h1,h2,_⟩:=mP c.hv _ (Nat.min_le_left _ _) o ho
 have hf:cY c.s o c.gps=true:=by simp only [fK,Bool.and_eq_true] at h1; exact h1.2
 refine ⟨hf,h2,Dg (fun p hp=>?_) (by omega) hf⟩
 have:=p3 p hp
 unfold bS.gb; omega
theorem Bj (c:bS):ae Tryz.prog 5 [.agg (FG c)] (.tup [.agg (cJ c.s),aZ c.gl,ay c.gps,.agg (bp c.ga c.gb)]):=by
 have cA:ae Tryz.prog 8 [.int .i64 c.from_,.int .i64 900000] (.int .i64 c.ga):=sO _ _ (by decide)
 have cS:ae Tryz.prog 20 [.int .i64 3,.agg (lR c.x),.agg (i4A c.y)] (.agg (cJ c.s)):=Gx c.x c.y (Hq c.hx)
 have hr:=c.grng
 have cP:ae Tryz.prog 21 [.int .i64 3,.int .i64 c.ga,.sl .no 3 (c.z.map ka)] (ay c.gps):=by
  have h:=yO (c.s 0) c.ga c.z (by rw [c.s0]; omega) (by omega) c.hz
  rw [c.s0] at h
  have e:c.gps=gf 3 c.ga c.z:=by unfold bS.gps; rw [c.s0]
  rw [e]; exact h
 have cO:ae Tryz.prog 22 [.agg (cJ c.s),ay c.gps,.int .i64 c.ga,.int .i64 10,.sl .no 5 (c.v.map j9)] (aZ c.gl):=vt c.s c.gps c.ga 10 c.v c.goptH c.hv
 have hb:IntKind.i64.wrap (c.ga+240)=c.gb:=am (by omega) (by omega)
 generalize c.gb=b at *
 generalize c.ga=a at *
 generalize c.s=s at *
 generalize c.gps=ps at *
 generalize c.gl=l at *
 refine ah aa Tryz.func5 rfl (by kernel_rfl) af (Nat.le_of_ble_eq_true rfl) ?_
 intro F n' w0 m0 hG hro h1
 repeat' first|refine QS rfl hG aa A9 ?_|((conv=>whnf); first|refine anF ?_|refine anT ?_|refine anK ?_|refine Exists.intro _ (And.intro (cA) ?_)|refine Exists.intro _ (And.intro (cS) ?_)|refine Exists.intro _ (And.intro (cP) ?_)|refine Exists.intro _ (And.intro (cO) ?_)|refine And.intro (fun h=>?_) (fun h=>?_)|refine Or.inl ?_)
 all_goals exact Ends.mk (Or.inl rfl) (ac (congrArg (fun z=>AV.tup [.agg (cJ s),aZ l,ay ps,.agg (bp a z)]) hb))
end Go.Proofs
namespace Go.Proofs
open Go Go.AI
def asc (l:List Int):Prop:=l.Pairwise (·<·)
theorem Cj:∀ {l m:List Int},asc l→asc m→(∀ x,x∈l↔x∈m)→l=m
 | [],[],_,_,_=>rfl
 | [],y::m,_,_,h=>absurd ((h y).2 List.mem_cons_self) (by simp)
 | x::l,[],_,_,h=>absurd ((h x).1 List.mem_cons_self) (by simp)
 | x::l,y::m,hl,hm,h=>by
  obtain ⟨hl1,hl2⟩:=List.pairwise_cons.1 hl
  obtain ⟨hm1,hm2⟩:=List.pairwise_cons.1 hm
  have e:x=y:=by
   rcases List.mem_cons.1 ((h x).1 List.mem_cons_self) with h1 | h1
   ·exact h1
   ·rcases List.mem_cons.1 ((h y).2 List.mem_cons_self) with h2 | h2
    ·exact h2.symm
    ·have:=hl1 y h2; have:=hm1 x h1; omega
  subst e
  rw [Cj hl2 hm2 fun z=>?_]
  constructor
  ·intro hz
   rcases List.mem_cons.1 ((h z).1 (List.mem_cons_of_mem _ hz)) with h1 | h1
   ·have:=hl1 z hz; omega
   ·exact h1
  ·intro hz
   rcases List.mem_cons.1 ((h z).2 (List.mem_cons_of_mem _ hz)) with h1 | h1
   ·have:=hm1 z hz; omega
   ·exact h1
theorem tZ (d:Array Int):∀ j:Nat,∃ k,k≤j∧Lib.keeps d k=true∧d[k]! = d[j]!
 | 0=>⟨0,Nat.le_refl _,by simp [Lib.keeps],rfl⟩
 | j+1=>by
  by_cases h:d[j+1]! = d[j]!
  ·obtain ⟨k,h1,h2,h3⟩:=tZ d j
   exact ⟨k,by omega,h2,by rw [h3,h]⟩
  ·exact ⟨j+1,Nat.le_refl _,by simp only [Lib.keeps,Nat.add_sub_cancel,decide_eq_true_eq]; exact .inr h,rfl⟩
theorem uW {zs:List Int} {x:Int}:x∈Lib.compact zs↔x∈zs:=by
 unfold Lib.compact Lib.compactUpTo
 simp only [List.mem_map,List.mem_filter,List.mem_range]
 constructor
 ·rintro ⟨j,⟨hj,_⟩,rfl⟩
  simp [hj]
 ·intro h
  obtain ⟨j,hj,rfl⟩:=List.getElem_of_mem h
  obtain ⟨k,h1,h2,h3⟩:=tZ zs.toArray j
  exact ⟨k,⟨by omega,h2⟩,by rw [h3]; simp [hj]⟩
theorem yy {zs:List Int} (h:zs.Pairwise (·≤·)):asc (Lib.compact zs):=by
 have hmono:∀ i j,i≤j→j<zs.length→zs.toArray[i]!≤zs.toArray[j]! := fun i j hij hj=>by
  rcases Nat.lt_or_eq_of_le hij with h1 | h1
  ·have:=List.pairwise_iff_getElem.1 h i j (by omega) hj h1
   simpa [hj,show i<zs.length by omega] using this
  ·subst h1; exact Int.le_refl _
 unfold asc Lib.compact Lib.compactUpTo
 rw [List.pairwise_map]
 refine List.Pairwise.imp_of_mem ?_ ((List.pairwise_lt_range (n:=zs.length)).filter (Lib.keeps zs.toArray))
 intro i j hi hj hij
 obtain ⟨_,_⟩:=List.mem_filter.1 hi
 obtain ⟨h1,h2⟩:=List.mem_filter.1 hj
 rw [List.mem_range] at h1
 simp only [Lib.keeps,decide_eq_true_eq] at h2
 rcases h2 with h2 | h2
 ·omega
 ·have h3:=hmono i (j - 1) (by omega) (by omega)
  have h4:=hmono (j - 1) j (by omega) h1
  omega
def uN (l:List Opt):List Int:=(l.take 8).flatMap fun o=>(o.sl.take 6).map (·.p)
def sortI (l:List Int):List Int:=l.mergeSort fun x y=>decide (x≤y)
def az (l:List Opt):List Int:=Lib.compact (sortI (uN l))
theorem Et (l:List Int):(sortI l).Pairwise (·≤·):=by
 have h:=List.pairwise_mergeSort (le:=fun x y:Int=>decide (x≤y)) (fun a b c h1 h2=>by simp at *; omega) (fun a b=>by simp; omega) l
 exact h.imp fun h=>by simpa using h
theorem o8 (l:List Opt):asc (az l):=yy (Et _)
theorem tY {l:List Opt} {x:Int}:x∈az l↔x∈uN l:=by
 unfold az sortI
 rw [uW,List.mem_mergeSort]
def xp (l:List Int) (n:Int):List Int:=if (l.dropWhile (fun x=>decide (x<n))).head?=some n then l else l.takeWhile (fun x=>decide (x<n))++n::l.dropWhile (fun x=>decide (x<n))
theorem AO {l:List Int} {n y:Int} (h:(l.dropWhile fun x=>decide (x<n)).head?=some y):¬ y<n:=by
 have:=List.head?_dropWhile_not (fun x=>decide (x<n)) l
 rw [h] at this
 simpa using this
theorem E4 {l:List Int} {n x:Int}:x∈xp l n↔x∈l∨x=n:=by
 unfold xp
 have e:=List.takeWhile_append_dropWhile (p:=fun x=>decide (x<n)) (l:=l)
 split
 ·rename_i h
  have hm:n∈l:=by
   rw [← e,List.mem_append]
   exact .inr (List.mem_of_mem_head? (by rw [h]; rfl))
  constructor
  ·exact .inl
  ·rintro (h | h)
   ·exact h
   ·rw [h]; exact hm
 ·have:x∈l↔x∈l.takeWhile (fun x=>decide (x<n))∨x∈l.dropWhile (fun x=>decide (x<n)):=by
   rw [← List.mem_append,e]
  rw [this]
  simp only [List.mem_append,List.mem_cons]
  constructor
  ·rintro (h | h | h)
   ·exact .inl (.inl h)
   ·exact .inr h
   ·exact .inl (.inr h)
  ·rintro ((h | h) | h)
   ·exact .inl h
   ·exact .inr (.inr h)
   ·exact .inr (.inl h)
theorem FP {l:List Int} {n:Int} (hl:asc l):asc (xp l n):=by
 unfold xp
 split
 ·exact hl
 ·rename_i hne
  have e:=List.takeWhile_append_dropWhile (p:=fun x=>decide (x<n)) (l:=l)
  have hl2:asc (l.takeWhile (fun x=>decide (x<n))++l.dropWhile (fun x=>decide (x<n))):=by rw [e]; exact hl
  obtain ⟨h1,h2,h3⟩:=List.pairwise_append.1 hl2
  have ht:∀ x∈l.takeWhile (fun x=>decide (x<n)),x<n:=fun x hx=>by
   have:=List.all_eq_true.1 (List.all_takeWhile (l:=l) (p:=fun x=>decide (x<n))) x hx
   simpa using this
  have hd:∀ y∈l.dropWhile (fun x=>decide (x<n)),n<y:=by
   cases hdw:l.dropWhile (fun x=>decide (x<n)) with
   | nil=>simp
   | cons z r=>
    rw [hdw] at hne h2
    have hz:¬ z<n:=AO (l:=l) (n:=n) (y:=z) (by rw [hdw]; rfl)
    have hz2:z≠n:=fun e=>hne (by simp [e])
    intro y hy
    rcases List.mem_cons.1 hy with h | h
    ·omega
    ·have:=(List.pairwise_cons.1 h2).1 y h; omega
  refine List.pairwise_append.2 ⟨h1,List.pairwise_cons.2 ⟨hd,h2⟩,fun x hx y hy=>?_⟩
  rcases List.mem_cons.1 hy with h | h
  ·rw [h]; exact ht x hx
  ·have:=ht x hx; have:=hd y h; omega
theorem rS:∀ (r l:List Int),asc l→asc (r.foldl xp l)∧∀ x,x∈r.foldl xp l↔x∈l∨x∈r
 | [],l,hl=>⟨hl,fun x=>by simp⟩
 | n::r,l,hl=>by
  obtain ⟨h1,h2⟩:=rS r (xp l n) (FP hl)
  refine ⟨h1,fun x=>?_⟩
  rw [List.foldl_cons,h2,E4,List.mem_cons,or_assoc]
theorem CF (l:List Opt):(uN l).foldl xp []=az l:=by
 obtain ⟨h1,h2⟩:=rS (uN l) [] List.Pairwise.nil
 exact Cj h1 (o8 l) fun x=>by rw [h2,tY]; simp
def sd (b i:Nat):Bool:=decide (b / 2 ^ i % 2=1)
def dK (f:List Int) (b i:Nat):List Int:=(List.range i).filterMap fun j=>if sd b j then f[j]? else none
def dh (f:List Int) (b:Nat):List Int:=dK f b f.length
theorem mB {f:List Int} {b i:Nat} (h:i<f.length):dK f b (i+1)=dK f b i++(if sd b i then [f.getD i 0] else []):=by
 unfold dK
 rw [List.range_succ,List.filterMap_append]
 congr 1
 simp only [List.filterMap_cons,List.filterMap_nil]
 split
 ·rename_i h1
  split at h1
  ·simp [List.getElem?_eq_getElem h] at h1
  ·rename_i h2; rw [if_neg (by simpa using h2)]
 ·rename_i h1
  split at h1
  ·rename_i h2
   rw [if_pos (by simpa using h2),List.getD_eq_getElem?_getD,h1]; rfl
  ·cases h1
theorem iY (f:List Int) (b i:Nat):(dK f b i).length≤i:=by
 unfold dK
 exact Nat.le_trans (List.length_filterMap_le _ _) (by simp)
def aQ (l:List Int) (i:Nat):Int:=l.getD i 0
def oX (n:Nat) (l:List Int) (i:Nat):Bool:=decide (0≤aQ l i)&&decide (aQ l i<n)&&(decide (i=0)||decide (aQ l (i - 1)<aQ l i))
def mE (ps:List ao) (l:List Int):Bool:=(List.range l.length).all (oX ps.length l)&&cH ps
def dX (ps:List ao) (p:Int):Int:=(aD ps p.toNat).ca.tdiv 1440
def lV (l:List Int) (d:Int):Nat:=(l.filter fun x=>decide (x=d)).length
def BV (ds:List Int):Nat:=ds.foldl (fun n d=>max n (lV ds d)) 0
def BU (ps:List ao) (l:List Int):Nat:=BV (l.map (dX ps))
def uZ (k:Int):Bool:=decide (0≤k)&&decide (k≤3)
def fC (ps:List ao) (l:List Int) (k:Int):Bool:=uZ k&&mE ps l&&decide ((BU ps l:Int)≤k)
def eS (f:List Int) (ps:List ao) (k:Int) (n:Nat):List (List Int):=((List.range n).map (dh f)).filter fun l=>fC ps l k
def dV (f:List Int) (ps:List ao) (k:Int):List (List Int):=eS f ps k (2 ^ f.length)
theorem pB (f:List Int) (ps:List ao) (k:Int) (n:Nat):eS f ps k (n+1)=eS f ps k n++(if fC ps (dh f n) k then [dh f n] else []):=by
 unfold eS
 rw [List.range_succ,List.map_append,List.filter_append]
 congr 1
 simp only [List.map_cons,List.map_nil,List.filter_cons,List.filter_nil]
def iv (ds:List Int):Nat→Nat
 | 0=>0
 | i+1=>max (iv ds i) (lV (ds.take (i+1)) (ds.getD i 0))
theorem nZ (ds:List Int) (i:Nat) (d:Int):lV (ds.take i) d≤lV ds d:=by
 unfold lV
 exact (((List.take_sublist i ds).filter _).length_le)
theorem nU {α:Type} (f:α→Nat):∀ (l:List α) (n b:Nat),n≤b→(∀ x∈l,f x≤b)→l.foldl (fun n d=>max n (f d)) n≤b
 | [],n,b,h,_=>h
 | x::l,n,b,h,hx=>nU f l _ b (Nat.max_le.2 ⟨h,hx x List.mem_cons_self⟩) fun y hy=>hx y (List.mem_cons_of_mem _ hy)
theorem ml {α:Type} (f:α→Nat):∀ (l:List α) (n:Nat),n≤l.foldl (fun n d=>max n (f d)) n
 | [],n=>Nat.le_refl _
 | x::l,n=>Nat.le_trans (Nat.le_max_left _ _) (ml f l _)
theorem nO {α:Type} (f:α→Nat):∀ (l:List α) (n:Nat) (x:α),x∈l→f x≤l.foldl (fun n d=>max n (f d)) n
 | y::l,n,x,h=>by
  rcases List.mem_cons.1 h with h | h
  ·subst h; exact Nat.le_trans (Nat.le_max_right _ _) (ml f l _)
  ·exact nO f l _ x h
theorem rn (ds:List Int):∀ i,i≤ds.length→iv ds i≤BV ds
 | 0,_=>Nat.zero_le _
 | i+1,h=>by
  refine Nat.max_le.2 ⟨rn ds i (by omega),Nat.le_trans (nZ _ _ _) ?_⟩
  refine nO (lV ds) ds 0 _ ?_
  rw [List.getD_eq_getElem?_getD,List.getElem?_eq_getElem (show i<ds.length by omega)]
  exact List.getElem_mem _
theorem ui {ds:List Int} {d:Int}:∀ i,i≤ds.length→lV (ds.take i) d≤iv ds i
 | 0,_=>by simp [lV]
 | i+1,h=>by
  have hi:i<ds.length:=by omega
  have e:ds.take (i+1)=ds.take i++[ds.getD i 0]:=by
   rw [List.take_add_one,List.getD_eq_getElem?_getD,List.getElem?_eq_getElem hi]; rfl
  by_cases hd:ds.getD i 0=d
  ·show _≤max _ _
   rw [hd]; exact Nat.le_max_right _ _
  ·have:lV (ds.take (i+1)) d=lV (ds.take i) d:=by
    have e2:List.filter (fun x=>decide (x=d)) [ds.getD i 0]=[]:=by
     rw [List.filter_cons_of_neg (by simpa using hd)]; rfl
    rw [e]; unfold lV; rw [List.filter_append,e2,List.append_nil]
   rw [this]
   exact Nat.le_trans (ui i (by omega)) (Nat.le_max_left _ _)
theorem Aw (ds:List Int):iv ds ds.length=BV ds:=by
 refine Nat.le_antisymm (rn ds _ (Nat.le_refl _)) ?_
 refine nU _ _ _ _ (Nat.zero_le _) fun x _=>?_
 have:=ui (ds:=ds) (d:=x) ds.length (Nat.le_refl _)
 rwa [List.take_length] at this
end Go.Proofs
namespace Go.Proofs
open Go Go.Shelf
def tk:Go.Shelf.Ren:=⟨fun | 189=>23 | 125=>51 | 257=>50 | 128=>93 | 129=>94 | 294=>84 | 295=>85 | 296=>86 | 297=>87 | 298=>88 | 299=>89 | 216=>90 | 300=>91 | 301=>92 | 328=>125 | 329=>126 | 330=>127 | 331=>128 | 332=>129 | 215=>130 | 343=>150 | n=>n,fun | 28=>43 | 3=>3 | 46=>134 | 0=>0 | 51=>175 | 53=>177 | 4=>4 | 183=>168 | 182=>167 | 131=>98 | 5=>5 | 9=>9 | 218=>210 | 222=>214 | 228=>232 | 229=>233 | n=>n,fun | n=>n⟩
theorem ux:Lays.n189 Tryz.prog tk where
 mixed:=by kernel_rfl
 f125:=Tryz.func51.trans (congrArg some (by kernel_rfl))
 f128:=Tryz.func93.trans (congrArg some (by kernel_rfl))
 f129:=Tryz.func94.trans (congrArg some (by kernel_rfl))
 f189:=Tryz.func23.trans (congrArg some (by kernel_rfl))
 f215:=Tryz.func130.trans (congrArg some (by kernel_rfl))
 f216:=Tryz.func90.trans (congrArg some (by kernel_rfl))
 f257:=Tryz.func50.trans (congrArg some (by kernel_rfl))
 f294:=Tryz.func84.trans (congrArg some (by kernel_rfl))
 f295:=Tryz.func85.trans (congrArg some (by kernel_rfl))
 f296:=Tryz.func86.trans (congrArg some (by kernel_rfl))
 f297:=Tryz.func87.trans (congrArg some (by kernel_rfl))
 f298:=Tryz.func88.trans (congrArg some (by kernel_rfl))
 f299:=Tryz.func89.trans (congrArg some (by kernel_rfl))
 f300:=Tryz.func91.trans (congrArg some (by kernel_rfl))
 f301:=Tryz.func92.trans (congrArg some (by kernel_rfl))
 f328:=Tryz.func125.trans (congrArg some (by kernel_rfl))
 f329:=Tryz.func126.trans (congrArg some (by kernel_rfl))
 f330:=Tryz.func127.trans (congrArg some (by kernel_rfl))
 f331:=Tryz.func128.trans (congrArg some (by kernel_rfl))
 f332:=Tryz.func129.trans (congrArg some (by kernel_rfl))
 f343:=Tryz.func150.trans (congrArg some (by kernel_rfl))
 t0:=Tryz.underlying0
 a0:=Tryz.isAgg0
 z0:=Tryz.sizeOf0
 v0:=Tryz.zeroValue0
 t3:=Tryz.underlying3
 a3:=Tryz.isAgg3
 z3:=Tryz.sizeOf3
 v3:=Tryz.zeroValue3
 t4:=Tryz.underlying4
 a4:=Tryz.isAgg4
 z4:=Tryz.sizeOf4
 v4:=Tryz.zeroValue4
 t5:=Tryz.underlying5
 a5:=Tryz.isAgg5
 z5:=Tryz.sizeOf5
 v5:=Tryz.zeroValue5
 t9:=Tryz.underlying9
 a9:=Tryz.isAgg9
 z9:=Tryz.sizeOf9
 v9:=Tryz.zeroValue9
 t28:=Tryz.underlying43
 a28:=Tryz.isAgg43
 z28:=Tryz.sizeOf43
 v28:=Tryz.zeroValue43
 t46:=Tryz.underlying134
 a46:=Tryz.isAgg134
 z46:=Tryz.sizeOf134
 v46:=Tryz.zeroValue134
 t51:=Tryz.underlying175
 a51:=Tryz.isAgg175
 z51:=Tryz.sizeOf175
 v51:=Tryz.zeroValue175
 t53:=Tryz.underlying177
 a53:=Tryz.isAgg177
 z53:=Tryz.sizeOf177
 v53:=Tryz.zeroValue177
 t131:=Tryz.underlying98
 a131:=Tryz.isAgg98
 z131:=Tryz.sizeOf98
 v131:=Tryz.zeroValue98
 t182:=Tryz.underlying167
 a182:=Tryz.isAgg167
 z182:=Tryz.sizeOf167
 v182:=Tryz.zeroValue167
 t183:=Tryz.underlying168
 a183:=Tryz.isAgg168
 z183:=Tryz.sizeOf168
 v183:=Tryz.zeroValue168
 t218:=Tryz.underlying210
 a218:=Tryz.isAgg210
 z218:=Tryz.sizeOf210
 v218:=Tryz.zeroValue210
 t222:=Tryz.underlying214
 a222:=Tryz.isAgg214
 z222:=Tryz.sizeOf214
 v222:=Tryz.zeroValue214
 t228:=Tryz.underlying232
 a228:=Tryz.isAgg232
 z228:=Tryz.sizeOf232
 v228:=Tryz.zeroValue232
 t229:=Tryz.underlying233
 a229:=Tryz.isAgg233
 z229:=Tryz.sizeOf233
 v229:=Tryz.zeroValue233
end Go.Proofs
namespace Go.Proofs
open Go Go.Shelf
def tq:Go.Shelf.Ren:=⟨fun | 20=>24 | n=>n,fun | 22=>43 | 3=>3 | 4=>4 | 0=>0 | n=>n,fun | n=>n⟩
theorem uz:Lays2.n20 Tryz.prog tq where
 mixed:=by kernel_rfl
 f20:=Tryz.func24.trans (congrArg some (by kernel_rfl))
 t0:=Tryz.underlying0
 a0:=Tryz.isAgg0
 z0:=Tryz.sizeOf0
 v0:=Tryz.zeroValue0
 t3:=Tryz.underlying3
 a3:=Tryz.isAgg3
 z3:=Tryz.sizeOf3
 v3:=Tryz.zeroValue3
 t4:=Tryz.underlying4
 a4:=Tryz.isAgg4
 z4:=Tryz.sizeOf4
 v4:=Tryz.zeroValue4
 t22:=Tryz.underlying43
 a22:=Tryz.isAgg43
 z22:=Tryz.sizeOf43
 v22:=Tryz.zeroValue43
 i3:=by kernel_rfl
end Go.Proofs
namespace Go.Proofs
open Go Go.AI
set_option maxRecDepth 10000
theorem lB {l:List Int} {i:Nat} (h:i<l.length):(l.map fun h=>[AV.int .i64 h])[(i:Int).toNat]?=some [.int .i64 (aQ l i)]:=by simp [aQ,List.getElem?_eq_getElem h]
theorem yB (p:Nat→Bool) (n:Nat):(List.range (n+1)).all p=((List.range n).all p&&p n):=by rw [List.range_succ,List.all_append]; simp
theorem Ey {ps:List ao} {l:List Int} {i:Nat} (hi:i<l.length) (h:oX ps.length l i=false):mE ps l=false:=by
 unfold mE
 rw [Bool.and_eq_false_iff]
 refine .inl ?_
 rw [List.all_eq_false]
 exact ⟨i,List.mem_range.2 hi,by rw [h]; simp⟩
theorem wB (k:Int):ae Tryz.prog 113 [.int .i64 k] (.bool (uZ k)):=by
 refine ah aa Tryz.func113 rfl (by kernel_rfl) af (Nat.le_of_ble_eq_true rfl) ?_
 intro F n' w0 m0 hG hro h1
 repeat' first|refine QS rfl hG aa wt ?_|((conv=>whnf); first|refine anF ?_|refine anT ?_|refine anK ?_|refine And.intro (fun h=>?_) (fun h=>?_)|refine Or.inl ?_)
 all_goals refine Ends.mk (Or.inl rfl) (ac (congrArg AV.bool ?_))
 all_goals (clear hG; grind [uZ])
set_option maxHeartbeats 4000000 in
theorem sH (ps:List ao) (l:List Int) (hl:l.length≤1000000) (hps:ps.length≤1000000):ae Tryz.prog 95 [ay ps,aG l] (.bool (mE ps l)):=by
 have hpl:((ps.map aO).length:Int)=(ps.length:Int):=by rw [List.length_map]
 refine ah aa Tryz.func95 rfl (by kernel_rfl) af (Nat.le_of_ble_eq_true rfl) ?_
 intro F n' w0 m0 hG hro h1
 repeat' first|refine QS rfl hG aa lc ?_|((conv=>whnf); first|refine anF ?_|refine anT ?_|refine anK ?_|refine And.intro (fun h=>?_) (fun h=>?_)|refine Or.inl ?_)
 refine ar (X:=Nat) (fun x=>⟨[(9,.int .i64 x),(8,.int .i64 (l.map fun h=>[AV.int .i64 h]).length),(7,aG l),(1,aG l),(0,ay ps)],[]⟩) (fun x=>x≤l.length∧(List.range x).all (oX ps.length l)=true) (fun x=>l.length - x) 0 ⟨Nat.zero_le _,rfl⟩ (ai ?_ ?_) (fun x hx=>?_)
 ·repeat' (first | exact trivial | refine And.intro rfl ?_)
 ·repeat' (first | exact trivial | refine And.intro rfl ?_)
 ·rename Nat=>i
  obtain ⟨hi,ht⟩:=hx
  by_cases hlt_i:i<l.length
  ·have bbk:decide ((i:Int)<((l.map fun h=>[AV.int .i64 h]).length:Int))=false→False:=fun h=>by have:=of_decide_eq_false h; simp at this; omega
   have hx:=lB hlt_i
   have hw:(i:Int)>0→IntKind.i64.wrap ((i:Int) - 1)=((i - 1:Nat):Int):=fun h=>(am (by omega) (by omega)).trans (by omega)
   have hp0:decide ((i:Int)>0)=true→0≤IntKind.i64.wrap ((i:Int) - 1):=fun h=>by rw [hw (of_decide_eq_true h)]; omega
   have hp:decide ((i:Int)>0)=true→(l.map fun h=>[AV.int .i64 h])[(IntKind.i64.wrap ((i:Int) - 1)).toNat]?=some [.int .i64 (aQ l (i - 1))]:=fun h=>by rw [hw (of_decide_eq_true h)]; exact lB (by omega)
   have hok:oX ps.length l i=(decide (0≤aQ l i)&&decide (aQ l i<ps.length)&&(decide (i=0)||decide (aQ l (i - 1)<aQ l i))):=rfl
   generalize aQ l (i - 1)=v at hp hok
   generalize aQ l i=u at hx hok
   repeat' first|exact (bbk (by assumption)).elim|refine QS rfl hG aa lc ?_|((conv=>whnf); first|refine anF ?_|refine anT ?_|refine anK ?_|refine And.intro (Int.natCast_nonneg i) (Exists.intro _ (And.intro hx ?_))|refine And.intro (hp0 (by assumption)) (Exists.intro _ (And.intro (hp (by assumption)) ?_))|refine And.intro (fun h=>?_) (fun h=>?_)|refine Or.inl ?_)
   all_goals first
    |(refine Ends.mk (Or.inl rfl) (ac (congrArg AV.bool ?_))
      exact (Ey hlt_i (by rw [hok]; clear hG; grind)).symm)
    | skip
   all_goals (refine Exists.intro (i+1) (And.intro ?_ (And.intro (by omega) (ai ?_ ?_))))
   all_goals first
    |(refine And.intro (congrArg some (aq (by omega))) ?_
      repeat' (first | exact trivial | refine And.intro rfl ?_))
    |((repeat' (first | exact trivial | refine And.intro rfl ?_)); done)
    |(exact ⟨hlt_i,by rw [yB,ht,hok]; clear hG; grind⟩)
  ·have bbk:decide ((i:Int)<((l.map fun h=>[AV.int .i64 h]).length:Int))=true→False:=fun h=>by have:=of_decide_eq_true h; simp at this; omega
   have he:i=l.length:=by omega
   rw [he] at ht
   repeat' first|exact (bbk (by assumption)).elim|refine QS rfl hG aa lc ?_|((conv=>whnf); first|refine anF ?_|refine anT ?_|refine anK ?_|refine Exists.intro _ (And.intro (ey ps hps) ?_)|refine And.intro (fun h=>?_) (fun h=>?_)|refine Or.inl ?_)
   exact Ends.mk (Or.inl rfl) (ac (congrArg AV.bool (by rw [mE,ht,Bool.true_and])))
theorem EK {ps:List ao} (h:cH ps=true) {i:Nat} (hi:i<ps.length):0≤(aD ps i).ca∧(aD ps i).ca≤1000001:=by
 have h2:cU (aD ps i)=true:=by
  simp only [cH,Bool.and_eq_true,Bool.not_eq_true',List.any_eq_false] at h
  have:=h.1.2 (aD ps i) (by unfold aD; rw [List.getD_eq_getElem?_getD,List.getElem?_eq_getElem hi]; exact List.getElem_mem hi)
  simpa using this
 simp only [cU,Bool.and_eq_true,decide_eq_true_eq] at h2
 omega
def jU (ds:List Int) (i:Nat):List (Int×Int):=(ds.take i).foldl (fun t d=>lQ d (hZ t d+1) t) []
theorem lG (x y z:Int):∀ l:List (Int×Int),hZ (lQ x y l) z=if x=z then y else hZ l z
 | []=>by simp [lQ,hZ]
 | p::r=>by
  by_cases h:p.1=x
  ·simp only [lQ,if_pos h,hZ]
   by_cases h2:x=z
   ·rw [if_pos h2,if_pos h2]
   ·rw [if_neg h2,if_neg h2,if_neg (by rw [h]; exact h2)]
  ·simp only [lQ,if_neg h,hZ,lG x y z r]
   by_cases h2:x=z
   ·subst h2; simp [h]
   ·simp [h2]
theorem mz {ds:List Int} {i:Nat} (h:i<ds.length):ds.take (i+1)=ds.take i++[ds.getD i 0]:=by
 rw [List.take_add_one,List.getD_eq_getElem?_getD,List.getElem?_eq_getElem h]; rfl
theorem pP {ds:List Int} {i:Nat} (h:i<ds.length):jU ds (i+1)=lQ (ds.getD i 0) (hZ (jU ds i) (ds.getD i 0)+1) (jU ds i):=by
 unfold jU; rw [mz h,List.foldl_append]; rfl
theorem jT (ds:List Int) (z:Int):∀ i,i≤ds.length→hZ (jU ds i) z=(lV (ds.take i) z:Int)
 | 0,_=>by simp [jU,lV,hZ]
 | i+1,h=>by
  rw [pP h,lG,jT ds z i (by omega),jT ds _ i (by omega),mz h]
  unfold lV
  rw [List.filter_append,List.length_append]
  by_cases hz:ds.getD i 0=z
  ·have e2:List.filter (fun x=>decide (x=z)) [ds.getD i 0]=[ds.getD i 0]:=by rw [List.filter_cons_of_pos (by simpa using hz)]; rfl
   rw [if_pos hz,hz] at *; rw [e2]; simp
  ·have e2:List.filter (fun x=>decide (x=z)) [ds.getD i 0]=[]:=by rw [List.filter_cons_of_neg (by simpa using hz)]; rfl
   rw [if_neg hz,e2]; simp
theorem FA (l:List Int) (d:Int):lV l d≤l.length:=List.length_filter_le _ _
theorem g9:∀ t,t=194→wI Tryz.prog t:=by
 rintro _ rfl
 exact ⟨_,_,rfl,rfl,fun w=>rfl⟩
theorem BB {ps:List ao} {l:List Int} (h:mE ps l=true) {i:Nat} (hi:i<l.length):0≤aQ l i∧aQ l i<ps.length:=by
 have h:=(Bool.and_eq_true_iff.1 h).1
 rw [List.all_eq_true] at h
 have:=h i (List.mem_range.2 hi)
 simp only [oX,Bool.and_eq_true,decide_eq_true_eq] at this
 exact this.1
set_option maxHeartbeats 4000000 in
theorem DB (ps:List ao) (l:List Int) (hl:l.length≤1000000) (hset:mE ps l=true):ae Tryz.prog 114 [ay ps,aG l] (.int .i64 (BU ps l)):=by
 have hps2:cH ps=true:=by simp only [mE,Bool.and_eq_true] at hset; exact hset.2
 refine ah aa Tryz.func114 rfl (by kernel_rfl) af (Nat.le_of_ble_eq_true rfl) ?_
 intro F n' w0 m0 hG hro h1
 repeat' first|refine QS rfl hG aa gA ?_|((conv=>whnf); first|refine anF ?_|refine anT ?_|refine anK ?_|refine fun b=>?_|refine And.intro (fun h=>?_) (fun h=>?_)|refine Or.inl ?_)
 refine ar (X:=Nat) (fun x=>⟨[(12,.int .i64 x),(4,.int .i64 (iv (l.map (dX ps)) x)),(xk 9,.me .ents 9 b (gL (jU (l.map (dX ps)) x))),(11,.int .i64 (l.map fun h=>[AV.int .i64 h]).length),(10,aG l),(5,.lit (.map (some b))),(1,aG l),(0,ay ps)],[]⟩) (fun x=>x≤l.length) (fun x=>l.length - x) 0 (Nat.zero_le _) (ai ?_ ?_) (fun x hx=>?_)
 ·repeat' (first | exact trivial | refine And.intro rfl ?_)
 ·repeat' (first | exact trivial | refine And.intro rfl ?_)
 ·rename Nat=>i
  have hi:=hx
  by_cases hlt_i:i<l.length
  ·have bbk:decide ((i:Int)<((l.map fun h=>[AV.int .i64 h]).length:Int))=false→False:=fun h=>by have:=of_decide_eq_false h; simp at this; omega
   have hx:=lB hlt_i
   obtain ⟨h0,h1⟩:=BB hset hlt_i
   have hy:=eB (l:=ps) (i:=(aQ l i).toNat) (by omega)
   have hday:dX ps (aQ l i)=(aD ps (aQ l i).toNat).ca.tdiv 1440:=rfl
   have hdi:(l.map (dX ps)).getD i 0=dX ps (aQ l i):=by simp [aQ,List.getElem?_eq_getElem hlt_i]
   have hdl:i<(l.map (dX ps)).length:=by simpa using hlt_i
   have hs:=pP hdl
   have hg:=jT (l.map (dX ps)) (dX ps (aQ l i)) i (by omega)
   have hg2:=jT (l.map (dX ps)) (dX ps (aQ l i)) (i+1) (by omega)
   have hm:iv (l.map (dX ps)) (i+1)=max (iv (l.map (dX ps)) i) (lV ((l.map (dX ps)).take (i+1)) ((l.map (dX ps)).getD i 0)):=rfl
   have hcl:=FA ((l.map (dX ps)).take i) (dX ps (aQ l i))
   rw [List.length_take] at hcl
   rw [hdi] at hs hm
   have hwd:IntKind.i64.wrap ((aD ps (aQ l i).toNat).ca.tdiv 1440)=dX ps (aQ l i):=by
    rw [hday]; have h3:=EK hps2 (i:=(aQ l i).toNat) (by omega)
    rw [Int.tdiv_eq_ediv_of_nonneg h3.1]
    exact am (by omega) (by omega)
   have hw1:IntKind.i64.wrap (hZ (jU (l.map (dX ps)) i) (dX ps (aQ l i))+1)=hZ (jU (l.map (dX ps)) i) (dX ps (aQ l i))+1:=am (by omega) (by omega)
   generalize aD ps (aQ l i).toNat=p at hy hwd
   generalize aQ l i=u at *
   repeat' first|exact (bbk (by assumption)).elim|refine Q1 ?_|refine Q2 ?_|refine Q3 hG aa gA (by kernel_rfl) ?_|refine SPB.regM hG aa (M:=fun t=>t=194) g9 gA (by kernel_rfl) ?_|refine Q5 hG aa ?_|refine Q6 hG aa ?_|refine Q7 hG aa ?_|refine Q8 hG aa ?_|refine Q9 rfl ?_|refine QF rfl ?_|refine QC rfl ⟨fun h=>?_,fun h=>?_⟩|((conv=>whnf); first|refine anF ?_|refine anT ?_|refine anK ?_|refine And.intro (Int.natCast_nonneg i) (Exists.intro _ (And.intro hx ?_))|refine And.intro h0 (Exists.intro _ (And.intro hy ?_))|refine And.intro (of_decide_eq_true (Eq.refl true)) ?_|refine Exists.intro 9 (Exists.intro _ (And.intro rfl ?_))|refine And.intro (fun h=>?_) (fun h=>?_)|refine Or.inl ?_)
   conv=>whnf
   rw [hs,lG,if_pos rfl] at hg2
   refine Exists.intro (i+1) (And.intro hlt_i (And.intro (by omega) (ai ?_ ?_)))
   ·refine And.intro (congrArg some (aq (by omega))) (And.intro (congrArg (fun z=>some (AV.int .i64 z)) ?_) (And.intro (congrArg (fun z=>some (AV.me .ents 9 b (gL z))) ?_) ?_))
    ·rw [hwd,hw1,lG,if_pos rfl,hm,hg2]
     show max _ _=_
     omega
    ·rw [hwd,hw1]; exact hs.symm
    ·repeat' (first | exact trivial | refine And.intro rfl ?_)
   ·repeat' (first | exact trivial | refine And.intro rfl ?_)
  ·have bbk:decide ((i:Int)<((l.map fun h=>[AV.int .i64 h]).length:Int))=true→False:=fun h=>by have:=of_decide_eq_true h; simp at this; omega
   have he:i=(l.map (dX ps)).length:=by rw [List.length_map]; omega
   have hr:iv (l.map (dX ps)) i=BU ps l:=by rw [he]; exact Aw _
   rw [hr]
   repeat' first|exact (bbk (by assumption)).elim|refine QS rfl hG aa gA ?_|((conv=>whnf); first|refine anF ?_|refine anT ?_|refine anK ?_|refine And.intro (fun h=>?_) (fun h=>?_)|refine Or.inl ?_)
   exact Ends.mk (Or.inl rfl) (ac rfl)
end Go.Proofs
namespace Go.Proofs
open Go Go.AI
set_option maxRecDepth 10000
def inP (l:List Int) (x:Int):Bool:=l.any fun y=>x==y
theorem p9 (l:List Int) (x:Int) (hl:l.length≤1000000):ae Tryz.prog 52 [aG l,.int .i64 x] (.int .i64 (bC (fun y=>x==y) l 0)):=by
 refine ah aa Tryz.func52 rfl (by kernel_rfl) af (Nat.le_of_ble_eq_true rfl) ?_
 intro F n' w0 m0 hG hro h1
 repeat' first|refine QS rfl hG aa li ?_|((conv=>whnf); first|refine anF ?_|refine anT ?_|refine anK ?_|refine And.intro (fun h=>?_) (fun h=>?_)|refine Or.inl ?_)
 refine ar (X:=Nat) (fun i=>⟨[(8,.int .i64 i),(7,.int .i64 (l.map fun h=>[AV.int .i64 h]).length),(1,.int .i64 x),(0,aG l)],[]⟩) (fun i=>i≤l.length∧bC (fun y=>x==y) (l.drop i) i=bC (fun y=>x==y) l 0) (fun j=>l.length - j) 0 ⟨Nat.zero_le _,by simp⟩ (ai ?_ ?_) (fun i hx=>?_)
 ·repeat' (first | exact trivial | refine And.intro rfl ?_)
 ·repeat' (first | exact trivial | refine And.intro rfl ?_)
 ·obtain ⟨hi,ht⟩:=hx
  by_cases hlt_i:i<l.length
  ·have bbk:decide ((i:Int)<((l.map fun h=>[AV.int .i64 h]).length:Int))=false→False:=fun h=>by have:=of_decide_eq_false h; simp at this; omega
   have hx:=lB hlt_i
   have hst:=aR (p:=fun y=>x==y) (d:=0) (j:=i) hlt_i
   have hst:bC (fun y=>x==y) (l.drop i) i=if (x==aQ l i)=true then (i:Int) else bC (fun y=>x==y) (l.drop (i+1)) (i+1):=hst
   generalize aQ l i=u at hx hst
   repeat' first|exact (bbk (by assumption)).elim|refine QS rfl hG aa li ?_|((conv=>whnf); first|refine anF ?_|refine anT ?_|refine anK ?_|refine And.intro (Int.natCast_nonneg i) (Exists.intro _ (And.intro hx ?_))|refine And.intro (fun h=>?_) (fun h=>?_)|refine Or.inl ?_)
   all_goals first
    |(refine Ends.mk (Or.inl rfl) (ac (congrArg (AV.int .i64) ?_))
      rw [← ht,hst,if_pos (by assumption)])
    | skip
   all_goals (refine Exists.intro (i+1) (And.intro ?_ (And.intro (by omega) (ai ?_ ?_))))
   all_goals first
    |(refine And.intro (congrArg some (aq (by omega))) ?_
      repeat' (first | exact trivial | refine And.intro rfl ?_))
    |((repeat' (first | exact trivial | refine And.intro rfl ?_)); done)
    |(exact ⟨hlt_i,by rw [← ht,hst,if_neg (fun h=>tf h (by assumption))]⟩)
  ·have bbk:decide ((i:Int)<((l.map fun h=>[AV.int .i64 h]).length:Int))=true→False:=fun h=>by have:=of_decide_eq_true h; simp at this; omega
   have he:i=l.length:=by omega
   rw [he,List.drop_length] at ht
   repeat' first|exact (bbk (by assumption)).elim|refine QS rfl hG aa li ?_|((conv=>whnf); first|refine anF ?_|refine anT ?_|refine anK ?_|refine And.intro (fun h=>?_) (fun h=>?_)|refine Or.inl ?_)
   exact Ends.mk (Or.inl rfl) (ac (congrArg (AV.int .i64) ht))
theorem hU (l:List Int) (x:Int) (hl:l.length≤1000000):ae Tryz.prog 25 [aG l,.int .i64 x] (.bool (inP l x)):=by
 refine ah aa Tryz.func25 rfl (by kernel_rfl) af (Nat.le_of_ble_eq_true rfl) ?_
 intro F n' w0 m0 hG hro h1
 repeat' first|refine QS rfl hG aa zq ?_|((conv=>whnf); first|refine anF ?_|refine anT ?_|refine anK ?_|refine Exists.intro _ (And.intro (p9 l x hl) ?_)|refine And.intro (fun h=>?_) (fun h=>?_)|refine Or.inl ?_)
 all_goals exact Ends.mk (Or.inl rfl) (ac (congrArg AV.bool (dM _ l 0)))
theorem zC (l:List Int) (hl:l.length≤1000000):ae Tryz.prog 53 [aG l] (aG l):=by
 rcases l with _ | ⟨x,l⟩
 ·refine ah aa Tryz.func53 rfl (by kernel_rfl) af (Nat.le_of_ble_eq_true rfl) ?_
  intro F n' w0 m0 hG hro h1
  repeat' first|refine Q1 ?_|refine Q2 ?_|refine Q3 hG aa iI (by kernel_rfl) ?_|refine SPB.regM hG aa (M:=fun t=>t=194) g9 iI (by kernel_rfl) ?_|refine Q5 hG aa ?_|refine Q6 hG aa ?_|refine Q7 hG aa ?_|refine Q8 hG aa ?_|refine Q9 rfl ?_|refine QF rfl ?_|refine QC rfl ⟨fun h=>?_,fun h=>?_⟩|((conv=>whnf); first|refine anF ?_|refine anT ?_|refine anK ?_|refine And.intro (Nat.le_of_ble_eq_true rfl) (And.intro (Nat.le_of_ble_eq_true rfl) ?_)|refine And.intro (fun _=>?_) ?_|refine And.intro (fun h=>?_) (fun h=>?_)|refine Or.inl ?_)
  all_goals (first | exact Ends.mk (Or.inl rfl) (ac rfl) | (dsimp only; exact Ends.mk (Or.inl rfl) (ac rfl)) | (show AI.Ends _ _ _ _ _; exact Ends.mk (Or.inl rfl) (ac rfl)))
 ·have hr1:(([]:List (List AV)).length+((x::l).map fun h=>[AV.int .i64 h]).length)*8≤70368744177664:=by simp at hl ⊢; omega
  have hr2:([]:List (List AV)).length+((x::l).map fun h=>[AV.int .i64 h]).length≤4611686018427387904:=by simp at hl ⊢; omega
  refine ah aa Tryz.func53 rfl (by kernel_rfl) af (Nat.le_of_ble_eq_true rfl) ?_
  intro F n' w0 m0 hG hro h1
  repeat' first|refine Q1 ?_|refine Q2 ?_|refine Q3 hG aa iI (by kernel_rfl) ?_|refine SPB.regM hG aa (M:=fun t=>t=194) g9 iI (by kernel_rfl) ?_|refine Q5 hG aa ?_|refine Q6 hG aa ?_|refine Q7 hG aa ?_|refine Q8 hG aa ?_|refine Q9 rfl ?_|refine QF rfl ?_|refine QC rfl ⟨fun h=>?_,fun h=>?_⟩|((conv=>whnf); first|refine anF ?_|refine anT ?_|refine anK ?_|refine And.intro (fun h=>absurd h (by simp)) ?_|refine And.intro hr1 (And.intro hr2 ?_)|refine And.intro (fun h=>?_) (fun h=>?_)|refine Or.inl ?_)
  all_goals (first | exact Ends.mk (Or.inl rfl) (ac rfl) | (dsimp only; exact Ends.mk (Or.inl rfl) (ac rfl)) | (show AI.Ends _ _ _ _ _; exact Ends.mk (Or.inl rfl) (ac rfl)))
theorem wG (ps:List ao) (l:List Int) (k:Int) (hl:l.length≤1000000) (hps:ps.length≤1000000):ae Tryz.prog 70 [ay ps,aG l,.int .i64 k] (.bool (fC ps l k)):=by
 refine ah aa Tryz.func70 rfl (by kernel_rfl) af (Nat.le_of_ble_eq_true rfl) ?_
 intro F n' w0 m0 hG hro h1
 repeat' first|refine QS rfl hG aa yY ?_|((conv=>whnf); first|refine anF ?_|refine anT ?_|refine anK ?_|refine Exists.intro _ (And.intro (wB k) ?_)|refine Exists.intro _ (And.intro (sH ps l hl hps) ?_)|refine Exists.intro _ (And.intro (DB ps l hl (by assumption)) ?_)|refine And.intro (fun h=>?_) (fun h=>?_)|refine Or.inl ?_)
 all_goals refine Ends.mk (Or.inl rfl) (ac (congrArg AV.bool ?_))
 all_goals (clear hG; grind [fC])
def slL (ps:List ao) (t:Int) (x:aS):Bool := !decide (x.p<0) && !decide (x.p≥(ps.length:Int)) && !decide (x.a<max t (aD ps x.p.toNat).sa) && !decide (x.a≥x.b) && !decide (x.b>(aD ps x.p.toNat).sb)
def sS (ps:List ao):Int→List aS→Bool
 | _,[]=>true
 | t,x::r=>slL ps t x&&sS ps x.b r
def eV (o:Opt) (ps:List ao):Bool := !decide ((o.sl.length:Int)<1) && !decide ((o.sl.length:Int)>6)&&cH ps&&sS ps 0 o.sl
theorem CB {ps:List ao} {t:Int} {l:List aS} {i:Nat} (h:i<l.length):sS ps t (l.drop i)=(slL ps t (l.getD i ⟨0,0,0⟩)&&sS ps (l.getD i ⟨0,0,0⟩).b (l.drop (i+1))):=by
 rw [List.drop_eq_getElem_cons h,List.getD_eq_getElem?_getD,List.getElem?_eq_getElem h]; rfl
set_option maxHeartbeats 4000000 in
theorem pV (o:Opt) (ps:List ao) (hl:o.sl.length≤1000000) (hps:ps.length≤1000000):ae Tryz.prog 38 [.agg (aA o),ay ps] (.bool (eV o ps)):=by
 have hlm:((o.sl.map ax).length:Int)=(o.sl.length:Int):=by rw [List.length_map]
 have hpm:((ps.map aO).length:Int)=(ps.length:Int):=by rw [List.length_map]
 refine ah aa Tryz.func38 rfl (by kernel_rfl) af (Nat.le_of_ble_eq_true rfl) ?_
 intro F n' w0 m0 hG hro h1
 repeat' first|refine QS rfl hG aa lm ?_|((conv=>whnf); first|refine anF ?_|refine anT ?_|refine anK ?_|refine Exists.intro _ (And.intro (ey ps hps) ?_)|refine And.intro (fun h=>?_) (fun h=>?_)|refine Or.inl ?_)
 all_goals first
  |(refine Ends.mk (Or.inl rfl) (ac (congrArg AV.bool ?_))
    (rw [hlm] at *; clear hG; grind [eV]))
  | skip
 have hval:eV o ps=sS ps 0 o.sl:=by rw [hlm] at *; clear hG; grind [eV]
 rw [hval]
 refine ar (X:=Nat×Int) (fun x=>⟨[(27,.int .i64 x.1),(5,.int .i64 x.2),(26,.int .i64 (o.sl.map ax).length),(25,.sl .no 3 (o.sl.map ax)),(2,.loc 2 0),(1,ay ps)],[(2,aA o)]⟩) (fun x=>x.1≤o.sl.length∧sS ps x.2 (o.sl.drop x.1)=sS ps 0 o.sl) (fun x=>o.sl.length - x.1) (0,0) ⟨Nat.zero_le _,rfl⟩ (ai ?_ ?_) (fun x hx=>?_)
 ·repeat' (first | exact trivial | refine And.intro rfl ?_)
 ·repeat' (first | exact trivial | refine And.intro rfl ?_)
 ·obtain ⟨i,e⟩:=x
  obtain ⟨hi,hf⟩:=hx
  simp only at hi hf ⊢
  by_cases hlt_i:i<o.sl.length
  ·have bbk:decide ((i:Int)<((o.sl.map ax).length:Int))=false→False:=fun h=>by have:=of_decide_eq_false h; simp at this; omega
   have hx:=eR hlt_i
   rw [CB hlt_i] at hf
   generalize o.sl.getD i ⟨0,0,0⟩=x at hx hf
   have bad:slL ps e x=false→false=sS ps 0 o.sl:=fun h=>by rw [← hf,h,Bool.false_and]
   have hin:decide (x.p<0)=false→decide (x.p≥((ps.map aO).length:Int))=false→0≤x.p∧(ps.map aO)[x.p.toNat]?=some (aO (aD ps x.p.toNat)):=fun h1 h2=>by
    have h1:=of_decide_eq_false h1
    have h2:=of_decide_eq_false h2
    rw [hpm] at h2
    exact ⟨by omega,eB (by omega)⟩
   repeat' first|exact (bbk (by assumption)).elim|refine QS rfl hG aa lm ?_|((conv=>whnf); first|refine anF ?_|refine anT ?_|refine anK ?_|refine And.intro (Int.natCast_nonneg i) (Exists.intro _ (And.intro hx ?_))|refine And.intro (hin (by assumption) (by assumption)).1 (Exists.intro _ (And.intro (hin (by assumption) (by assumption)).2 ?_))|refine And.intro (fun h=>?_) (fun h=>?_)|refine Or.inl ?_)
   all_goals first
    |(refine Ends.mk (Or.inl rfl) (ac (congrArg AV.bool ?_))
      exact bad (by rw [hpm] at *; clear hG; grind [slL]))
    | skip
   all_goals (refine Exists.intro (i+1,x.b) (And.intro ?_ (And.intro (by show o.sl.length - (i+1)<o.sl.length - i; omega) (ai ?_ ?_))))
   all_goals first
    |(refine And.intro (congrArg some (aq (by omega))) ?_
      repeat' (first | exact trivial | refine And.intro rfl ?_))
    |((repeat' (first | exact trivial | refine And.intro rfl ?_)); done)
    |(exact ⟨hlt_i,by rw [← hf,show slL ps e x=true by (rw [hpm] at *; clear hG; grind [slL]),Bool.true_and]⟩)
  ·have bbk:decide ((i:Int)<((o.sl.map ax).length:Int))=true→False:=fun h=>by have:=of_decide_eq_true h; simp at this; omega
   rw [List.drop_of_length_le (by omega)] at hf
   repeat' first|exact (bbk (by assumption)).elim|refine QS rfl hG aa lm ?_|((conv=>whnf); first|refine anF ?_|refine anT ?_|refine anK ?_|refine And.intro (fun h=>?_) (fun h=>?_)|refine Or.inl ?_)
   exact Ends.mk (Or.inl rfl) (ac (congrArg AV.bool hf))
def dL (o:Opt) (lost:List Int):Int:=bC (fun x:aS => !inP lost x.p) o.sl 0
def kE (o:Opt) (ps:List ao) (lost:List Int):Bool:=eV o ps&&mE ps lost
def BD (o:Opt) (ps:List ao) (lost:List Int):AV := .tup (if kE o ps lost then [.int .i64 (dL o lost),.int .i64 0] else [.int .i64 0,.int .i64 180])
theorem yI (x:aS) (lost:List Int) (hl:lost.length≤1000000):ae Tryz.prog 97 ((.agg (ax x))::[.ref [aG lost]]) (.bool (!inP lost x.p)):=by
 refine ah aa Tryz.func97 rfl (by kernel_rfl) af (Nat.le_of_ble_eq_true rfl) ?_
 intro F n' w0 m0 hG hro h1
 repeat' first|refine QS rfl hG aa yQ ?_|((conv=>whnf); first|refine anF ?_|refine anT ?_|refine anK ?_|refine Exists.intro _ (And.intro (hU lost _ hl) ?_)|refine And.intro (fun h=>?_) (fun h=>?_)|refine Or.inl ?_)
 all_goals exact Ends.mk (Or.inl rfl) (ac rfl)
theorem sI (l:List aS) (p:aS→Bool) (g:FuncId) (fv:AV) (cap:List AV) (hf:fv = .clo g cap∨(fv = .fn g∧cap=[])) (hl:l.length≤1000000)
  (hp:∀ x∈l,ae Tryz.prog g ((.agg (ax x))::cap) (.bool (p x))):ae Tryz.prog 96 [.sl .no 3 (l.map ax),fv] (.int .i64 (bC p l 0)):=by
 rcases hf with rfl | ⟨rfl,rfl⟩
 ·refine ah aa Tryz.func96 rfl (by kernel_rfl) af (Nat.le_of_ble_eq_true rfl) ?_
  intro F n' w0 m0 hG hro h1
  repeat' first|refine QS rfl hG aa iE ?_|((conv=>whnf); first|refine anF ?_|refine anT ?_|refine anK ?_|refine And.intro (fun h=>?_) (fun h=>?_)|refine Or.inl ?_)
  refine ar (X:=Nat) (fun j=>⟨[(8,.int .i64 j),(7,.int .i64 (l.map ax).length),(0,.sl .no 3 (l.map ax)),(1,.clo g cap)],[]⟩) (fun j=>j≤l.length∧bC p (l.drop j) j=bC p l 0) (fun j=>l.length - j) 0
   ⟨Nat.zero_le _,by simp⟩ (ai ?_ trivial) (fun j hj=>?_)
  ·repeat' (first | exact trivial | refine And.intro rfl ?_)
  ·obtain ⟨hj,hi⟩:=hj
   have hj2:decide ((j:Int)<((l.map ax).length:Int))=true→j<l.length:=fun h=>by have:=of_decide_eq_true h; simp at this; omega
   have hx:decide ((j:Int)<((l.map ax).length:Int))=true→(l.map ax)[(j:Int).toNat]?=some (ax (l.getD j ⟨0,0,0⟩)):=fun h=>by have:=hj2 h; simp [List.getElem?_eq_getElem this]
   have hc:decide ((j:Int)<((l.map ax).length:Int))=true→ae Tryz.prog g ((.agg (ax (l.getD j ⟨0,0,0⟩)))::cap) (.bool (p (l.getD j ⟨0,0,0⟩))):=fun h=>hp _ (by have:=hj2 h; rw [List.getD_eq_getElem?_getD,List.getElem?_eq_getElem this]; exact List.getElem_mem this)
   repeat' first|refine QS rfl hG aa iE ?_|((conv=>whnf); first|refine anF ?_|refine anT ?_|refine anK ?_|refine And.intro (Int.natCast_nonneg j) (Exists.intro _ (And.intro (hx (by assumption)) ?_))|refine Exists.intro _ (And.intro (hc (by assumption)) ?_)|refine And.intro (fun h=>?_) (fun h=>?_)|refine Or.inl ?_)
   ·rw [aR (d:=⟨0,0,0⟩) (hj2 (by assumption)),if_pos (by assumption)] at hi
    exact Ends.mk (Or.inl rfl) (ac (congrArg (AV.int .i64) hi))
   ·have hj2:=hj2 (by assumption)
    rw [aR (d:=⟨0,0,0⟩) hj2,if_neg (fun h=>tf h (by assumption))] at hi
    refine Exists.intro (j+1) (And.intro ⟨hj2,hi⟩ (And.intro (by omega) (ai ?_ trivial)))
    refine And.intro (congrArg (fun z=>some (AV.int .i64 z)) ((am (by omega) (by omega)).trans (by omega))) ?_
    repeat' (first | exact trivial | refine And.intro rfl ?_)
   ·have hj2:l.length≤j:=by have:=of_decide_eq_false (by assumption:decide ((j:Int)<((l.map ax).length:Int))=false); simp at this; omega
    rw [List.drop_of_length_le hj2] at hi
    exact Ends.mk (Or.inl rfl) (ac (congrArg (AV.int .i64) hi))
 ·refine ah aa Tryz.func96 rfl (by kernel_rfl) af (Nat.le_of_ble_eq_true rfl) ?_
  intro F n' w0 m0 hG hro h1
  repeat' first|refine QS rfl hG aa iE ?_|((conv=>whnf); first|refine anF ?_|refine anT ?_|refine anK ?_|refine And.intro (fun h=>?_) (fun h=>?_)|refine Or.inl ?_)
  refine ar (X:=Nat) (fun j=>⟨[(8,.int .i64 j),(7,.int .i64 (l.map ax).length),(0,.sl .no 3 (l.map ax)),(1,.fn g)],[]⟩) (fun j=>j≤l.length∧bC p (l.drop j) j=bC p l 0) (fun j=>l.length - j) 0
   ⟨Nat.zero_le _,by simp⟩ (ai ?_ trivial) (fun j hj=>?_)
  ·repeat' (first | exact trivial | refine And.intro rfl ?_)
  ·obtain ⟨hj,hi⟩:=hj
   have hj2:decide ((j:Int)<((l.map ax).length:Int))=true→j<l.length:=fun h=>by have:=of_decide_eq_true h; simp at this; omega
   have hx:decide ((j:Int)<((l.map ax).length:Int))=true→(l.map ax)[(j:Int).toNat]?=some (ax (l.getD j ⟨0,0,0⟩)):=fun h=>by have:=hj2 h; simp [List.getElem?_eq_getElem this]
   have hc:decide ((j:Int)<((l.map ax).length:Int))=true→ae Tryz.prog g ((.agg (ax (l.getD j ⟨0,0,0⟩)))::[]) (.bool (p (l.getD j ⟨0,0,0⟩))):=fun h=>hp _ (by have:=hj2 h; rw [List.getD_eq_getElem?_getD,List.getElem?_eq_getElem this]; exact List.getElem_mem this)
   repeat' first|refine QS rfl hG aa iE ?_|((conv=>whnf); first|refine anF ?_|refine anT ?_|refine anK ?_|refine And.intro (Int.natCast_nonneg j) (Exists.intro _ (And.intro (hx (by assumption)) ?_))|refine Exists.intro _ (And.intro (hc (by assumption)) ?_)|refine And.intro (fun h=>?_) (fun h=>?_)|refine Or.inl ?_)
   ·rw [aR (d:=⟨0,0,0⟩) (hj2 (by assumption)),if_pos (by assumption)] at hi
    exact Ends.mk (Or.inl rfl) (ac (congrArg (AV.int .i64) hi))
   ·have hj2:=hj2 (by assumption)
    rw [aR (d:=⟨0,0,0⟩) hj2,if_neg (fun h=>tf h (by assumption))] at hi
    refine Exists.intro (j+1) (And.intro ⟨hj2,hi⟩ (And.intro (by omega) (ai ?_ trivial)))
    refine And.intro (congrArg (fun z=>some (AV.int .i64 z)) ((am (by omega) (by omega)).trans (by omega))) ?_
    repeat' (first | exact trivial | refine And.intro rfl ?_)
   ·have hj2:l.length≤j:=by have:=of_decide_eq_false (by assumption:decide ((j:Int)<((l.map ax).length:Int))=false); simp at this; omega
    rw [List.drop_of_length_le hj2] at hi
    exact Ends.mk (Or.inl rfl) (ac (congrArg (AV.int .i64) hi))
theorem A6 (o:Opt) (ps:List ao) (lost:List Int) (ho:o.sl.length≤1000000) (hps:ps.length≤1000000) (hl:lost.length≤1000000):ae Tryz.prog 54 [.agg (aA o),ay ps,aG lost] (BD o ps lost):=by
 refine ah aa Tryz.func54 rfl (by kernel_rfl) af (Nat.le_of_ble_eq_true rfl) ?_
 intro F n' w0 m0 hG hro h1
 repeat' first|refine QS rfl hG aa zc ?_|((conv=>whnf); first|refine anF ?_|refine anT ?_|refine anK ?_|refine Exists.intro _ (And.intro (pV o ps ho hps) ?_)|refine Exists.intro _ (And.intro (sH ps lost hl hps) ?_)|refine Exists.intro _ (And.intro (sI o.sl _ _ _ _ (Or.inl rfl) ho (fun x _=>yI x lost hl)) ?_)|refine And.intro (fun h=>?_) (fun h=>?_)|refine Or.inl ?_)
 all_goals refine Ends.mk (Or.inl rfl) (ac ?_)
 all_goals (clear hG; first
  |(have h:kE o ps lost=true:=by grind [kE]
    simp only [BD,h,if_true]; rfl)
  |(have h:kE o ps lost=false:=by grind [kE]
    simp only [BD,h]; rfl))
end Go.Proofs
namespace Go.Proofs
open Go Go.AI
set_option maxRecDepth 10000
theorem xZ (l:List Int):bu (gm l)=l.map fun h=>[AV.int .i64 h]:=by simp [bu,gm]
theorem Fi (l:List Int):∀ x∈gm l,x.length=1:=fun x hx=>by
 obtain ⟨y,_,rfl⟩:=List.mem_map.1 hx; rfl
theorem yG (l:List Int) (hl:l.length≤1000000):pj Tryz.prog 23 l (sortI l):=pj.sortI ux (enters_of Tryz.func23 (by kernel_rfl) rfl) l (by omega)
theorem tp (l:List Int) (hl:l.length≤1000000):dJ Tryz.prog 24 1 (gm l) [] (fun r _=>r = .sl .no 1 (bu (gm (Lib.compact l)))):=dJ.compactI uz (enters_of Tryz.func24 (by kernel_rfl) rfl) l (by omega)
theorem tc (sz:Nat) {o:Go.AI.Own}:ae Tryz.prog 23 [.sl o sz []] (.tup []):=ae.sortNilI ux (enters_of Tryz.func23 (by kernel_rfl) rfl) sz
theorem pn (sz sz2:Nat) {o:Go.AI.Own}:ae Tryz.prog 24 [.sl o sz []] (.sl .no sz2 []):=ae.compactNil uz (enters_of Tryz.func24 (by kernel_rfl) rfl) sz sz2
def CE:List Int→List (Nat×AV)
 | []=>[(2,.sl .full 0 [])]
 | x::r=>[(2,.me .sl 33 (x::r).length []),(xk 33,.me .arr 33 1 ((x::r).map fun h=>[AV.int .i64 h]))]
theorem dO (o:List Int) (z:Int):CE (o++[z])=[(2,.me .sl 33 (o.length+1) []),(xk 33,.me .arr 33 1 ((o++[z]).map fun h=>[AV.int .i64 h]))]:=by
 cases o with
 | nil=>rfl
 | cons x r=>simp [CE]
theorem qT (o:List Int) (z x:Int):CE (o++[z]++[x])=[(2,.me .sl 33 (o.length+1+1) []),(xk 33,.me .arr 33 1 ((o++[z]).map (fun h=>[AV.int .i64 h])++[[AV.int .i64 x]]))]:=by
 rw [dO,List.map_append,List.length_append]; rfl
def fj (o:Opt):List Int:=(o.sl.take 6).map (·.p)
theorem tN (l:List Opt):(l.flatMap fj).length≤6*l.length:=by
 induction l with
 | nil=>simp
 | cons o r ih=>
  rw [List.flatMap_cons,List.length_append,List.length_cons]
  have:(fj o).length≤6:=by unfold fj; rw [List.length_map,List.length_take]; omega
  omega
theorem I2 {α:Type} (l:List α) (n:Nat) (m:Int) (hm:m=min (l.length:Int) n):0≤m∧m.toNat≤l.length∧(l.take m.toNat).drop 0=l.take n:=by
 subst hm
 refine ⟨by omega,by omega,?_⟩
 rw [List.drop_zero]
 rcases Nat.le_total l.length n with h | h
 ·rw [List.take_of_length_le (by omega),List.take_of_length_le h]
 ·rw [show (min (l.length:Int) n).toNat=n by omega]
set_option maxHeartbeats 16000000 in
theorem fD (l:List Opt) (hl:l.length≤1000000) (hs:ku l):ae Tryz.prog 7 [aZ l] (aG (az l)):=by
 obtain ⟨h8a,h8b,h8c⟩:=I2 (l.map aA) 8 _ rfl
 have h8c:=h8c.trans List.map_take.symm
 refine ah aa Tryz.func7 rfl (by kernel_rfl) af (Nat.le_of_ble_eq_true rfl) ?_
 intro F n' w0 m0 hG hro h1
 refine Q1 ?_
 refine SPB.regN hG aa bh [2] (by kernel_rfl) ?_
 conv=>whnf
 repeat' first|refine QS rfl hG aa bh ?_|((conv=>whnf); first|refine anF ?_|refine anT ?_|refine anK ?_|refine And.intro h8a (And.intro (Nat.zero_le _) (And.intro h8b ?_))|refine And.intro (fun h=>?_) (fun h=>?_)|refine Or.inl ?_)
 refine ar (X:=Nat) (fun i=>⟨(13,.int .i64 i)::(12,.int .i64 ((l.take 8).map aA).length)::(11,aZ (l.take 8))::CE (((l.take 8).take i).flatMap fj),[]⟩) (fun i=>i≤(l.take 8).length) (fun i=>(l.take 8).length - i) 0 (Nat.zero_le _) (ai ?_ ?_) (fun i hi=>?_)
 ·refine And.intro rfl (And.intro (congrArg (fun z=>some (AV.int .i64 (z:List (List AV)).length)) h8c) (And.intro (congrArg (fun z=>some (AV.sl .no 9 z)) h8c) ?_))
  repeat' (first | exact trivial | refine And.intro rfl ?_)
 ·repeat' (first | exact trivial | refine And.intro rfl ?_)
 ·have h8:i≤8:=by rw [List.length_take] at hi; omega
  by_cases hlt_i:i<(l.take 8).length
  ·have bbk:decide ((i:Int)<(((l.take 8).map aA).length:Int))=false→False:=fun h=>by have:=of_decide_eq_false h; rw [List.length_map] at this; omega
   have hx:=fX hlt_i
   have hsn:((l.take 8).take (i+1)).flatMap fj=((l.take 8).take i).flatMap fj++fj (ap (l.take 8) i):=by
    rw [List.take_add_one,List.getElem?_eq_getElem hlt_i,bN hlt_i]; simp
   have hlen:=tN ((l.take 8).take i)
   have hpu:fj (ap (l.take 8) i)=((ap (l.take 8) i).sl.take 6).map (·.p):=rfl
   rw [List.length_take] at hlen
   generalize ap (l.take 8) i=u at hx hsn hpu
   generalize hcc:((l.take 8).take i).flatMap fj=c at hsn hlen
   obtain ⟨h6a,h6b,h6c⟩:=I2 (u.sl.map ax) 6 _ rfl
   have h6c:=h6c.trans List.map_take.symm
   rcases co c with hc | ⟨o,z,hc⟩
   ·rw [hc]
    repeat' first|exact (bbk (by assumption)).elim|refine QS rfl hG aa bh ?_|((conv=>whnf); first|refine anF ?_|refine anT ?_|refine anK ?_|refine And.intro (Int.natCast_nonneg i) (Exists.intro _ (And.intro hx ?_))|refine And.intro h6a (And.intro (Nat.zero_le _) (And.intro h6b ?_))|refine And.intro (fun h=>?_) (fun h=>?_)|refine Or.inl ?_)
    refine ar (X:=Nat) (fun j=>⟨(25,.int .i64 j)::(24,.int .i64 ((u.sl.take 6).map ax).length)::(23,.sl .no 3 ((u.sl.take 6).map ax))::(13,.int .i64 i)::(12,.int .i64 ((l.take 8).map aA).length)::(11,aZ (l.take 8))::CE (c++((u.sl.take 6).take j).map (·.p)),[]⟩) (fun j=>j≤(u.sl.take 6).length) (fun j=>(u.sl.take 6).length - j) 0 (Nat.zero_le _) (ai ?_ ?_) (fun j hj=>?_)
    ·refine And.intro rfl (And.intro (congrArg (fun z=>some (AV.int .i64 (z:List (List AV)).length)) h6c) (And.intro (congrArg (fun z=>some (AV.sl .no 3 z)) h6c) ?_))
     simp only [List.take_zero,List.map_nil,List.append_nil]
     rw [hc]
     repeat' (first | exact trivial | refine And.intro rfl ?_)
    ·repeat' (first | exact trivial | refine And.intro rfl ?_)
    ·have hj6:j≤6:=by rw [List.length_take] at hj; omega
     by_cases hlt_j:j<(u.sl.take 6).length
     ·have bbj:decide ((j:Int)<(((u.sl.take 6).map ax).length:Int))=false→False:=fun h=>by have:=of_decide_eq_false h; rw [List.length_map] at this; omega
      have hy:=eR hlt_j
      have hsn2:c++((u.sl.take 6).take (j+1)).map (·.p)=(c++((u.sl.take 6).take j).map (·.p))++[((u.sl.take 6).getD j ⟨0,0,0⟩).p]:=by
       rw [List.take_add_one,List.getElem?_eq_getElem hlt_j,List.getD_eq_getElem?_getD,List.getElem?_eq_getElem hlt_j]; simp
      have hlen2:(c++((u.sl.take 6).take j).map (·.p)).length≤100:=by rw [List.length_append,List.length_map,List.length_take]; omega
      generalize (u.sl.take 6).getD j ⟨0,0,0⟩=y at hy hsn2
      generalize c++((u.sl.take 6).take j).map (·.p)=d at hsn2 hlen2
      rcases co d with hc | ⟨o,z,hc⟩
      ·rw [hc]
       repeat' first|exact (bbj (by assumption)).elim|refine QS rfl hG aa bh ?_|((conv=>whnf); first|refine anF ?_|refine anT ?_|refine anK ?_|refine And.intro (Int.natCast_nonneg j) (Exists.intro _ (And.intro hy ?_))|refine Or.inr (And.intro rfl (And.intro (Nat.le_of_ble_eq_true rfl) (And.intro (Nat.le_of_ble_eq_true rfl) (And.intro (Nat.le_of_ble_eq_true rfl) ?_))))|refine And.intro (fun h=>?_) (fun h=>?_)|refine Or.inl ?_)
       refine Exists.intro (j+1) (And.intro hlt_j (And.intro (by omega) ?_))
       (try dsimp only)
       rw [hsn2,hc]
       refine ai (And.intro (congrArg some (aq (by omega))) ?_) ?_
       ·repeat' (first | exact trivial | refine And.intro rfl ?_)
       ·repeat' (first | exact trivial | refine And.intro rfl ?_)
      ·rw [hc,dO]
       have hln:((o++[z]).map fun h=>[AV.int .i64 h]).length=o.length+1:=by simp
       have hlo:o.length≤100:=by rw [hc] at hlen2; simp at hlen2; omega
       repeat' first|exact (bbj (by assumption)).elim|refine QS rfl hG aa bh ?_|((conv=>whnf); first|refine anF ?_|refine anT ?_|refine anK ?_|refine And.intro (Int.natCast_nonneg j) (Exists.intro _ (And.intro hy ?_))|refine And.intro (Nat.le_of_ble_eq_true rfl) (And.intro (show ((((o++[z]).map fun h=>[AV.int .i64 h])).length+1)*8≤70368744177664 by rw [hln]; omega) (And.intro (show (((o++[z]).map fun h=>[AV.int .i64 h])).length+1≤4611686018427387904 by rw [hln]; omega) ?_))|refine And.intro (fun h=>?_) (fun h=>?_)|refine Or.inl ?_)
       refine Exists.intro (j+1) (And.intro hlt_j (And.intro (by omega) ?_))
       (try dsimp only)
       rw [hsn2,hc,qT]
       refine ai (And.intro (congrArg some (aq (by omega))) ?_) ?_
       ·repeat' (first | exact trivial | refine And.intro rfl ?_)
       ·repeat' (first | exact trivial | refine And.intro rfl ?_)
     ·have bbj:decide ((j:Int)<(((u.sl.take 6).map ax).length:Int))=true→False:=fun h=>by have:=of_decide_eq_true h; rw [List.length_map] at this; omega
      have he:(u.sl.take 6).take j=u.sl.take 6:=List.take_of_length_le (by omega)
      have hsn3:c++((u.sl.take 6).take j).map (·.p)=((l.take 8).take (i+1)).flatMap fj:=by rw [hsn,hpu,he]
      rw [hsn3]
      have hnx:∀ d,((l.take 8).take (i+1)).flatMap fj=d→((l.take 8).take (i+1)).flatMap fj=d:=fun _ h=>h
      generalize hdd:((l.take 8).take (i+1)).flatMap fj=d
      rcases co d with hc | ⟨o,z,hc⟩
      ·rw [hc]
       repeat' first|exact (bbj (by assumption)).elim|refine QS rfl hG aa bh ?_|((conv=>whnf); first|refine anF ?_|refine anT ?_|refine anK ?_|refine And.intro (fun h=>?_) (fun h=>?_)|refine Or.inl ?_)
       refine Exists.intro (i+1) (And.intro hlt_i (And.intro (by omega) ?_))
       (try dsimp only)
       rw [hdd,hc]
       refine ai (And.intro (congrArg some (aq (by omega))) ?_) ?_
       ·repeat' (first | exact trivial | refine And.intro rfl ?_)
       ·repeat' (first | exact trivial | refine And.intro rfl ?_)
      ·rw [hc,dO]
       repeat' first|exact (bbj (by assumption)).elim|refine QS rfl hG aa bh ?_|((conv=>whnf); first|refine anF ?_|refine anT ?_|refine anK ?_|refine And.intro (fun h=>?_) (fun h=>?_)|refine Or.inl ?_)
       refine Exists.intro (i+1) (And.intro hlt_i (And.intro (by omega) ?_))
       (try dsimp only)
       rw [hdd,hc,dO]
       refine ai (And.intro (congrArg some (aq (by omega))) ?_) ?_
       ·repeat' (first | exact trivial | refine And.intro rfl ?_)
       ·repeat' (first | exact trivial | refine And.intro rfl ?_)
   ·rw [hc,dO]
    repeat' first|exact (bbk (by assumption)).elim|refine QS rfl hG aa bh ?_|((conv=>whnf); first|refine anF ?_|refine anT ?_|refine anK ?_|refine And.intro (Int.natCast_nonneg i) (Exists.intro _ (And.intro hx ?_))|refine And.intro h6a (And.intro (Nat.zero_le _) (And.intro h6b ?_))|refine And.intro (fun h=>?_) (fun h=>?_)|refine Or.inl ?_)
    refine ar (X:=Nat) (fun j=>⟨(25,.int .i64 j)::(24,.int .i64 ((u.sl.take 6).map ax).length)::(23,.sl .no 3 ((u.sl.take 6).map ax))::(13,.int .i64 i)::(12,.int .i64 ((l.take 8).map aA).length)::(11,aZ (l.take 8))::CE (c++((u.sl.take 6).take j).map (·.p)),[]⟩) (fun j=>j≤(u.sl.take 6).length) (fun j=>(u.sl.take 6).length - j) 0 (Nat.zero_le _) (ai ?_ ?_) (fun j hj=>?_)
    ·refine And.intro rfl (And.intro (congrArg (fun z=>some (AV.int .i64 (z:List (List AV)).length)) h6c) (And.intro (congrArg (fun z=>some (AV.sl .no 3 z)) h6c) ?_))
     simp only [List.take_zero,List.map_nil,List.append_nil]
     rw [hc,dO]
     repeat' (first | exact trivial | refine And.intro rfl ?_)
    ·repeat' (first | exact trivial | refine And.intro rfl ?_)
    ·have hj6:j≤6:=by rw [List.length_take] at hj; omega
     by_cases hlt_j:j<(u.sl.take 6).length
     ·have bbj:decide ((j:Int)<(((u.sl.take 6).map ax).length:Int))=false→False:=fun h=>by have:=of_decide_eq_false h; rw [List.length_map] at this; omega
      have hy:=eR hlt_j
      have hsn2:c++((u.sl.take 6).take (j+1)).map (·.p)=(c++((u.sl.take 6).take j).map (·.p))++[((u.sl.take 6).getD j ⟨0,0,0⟩).p]:=by
       rw [List.take_add_one,List.getElem?_eq_getElem hlt_j,List.getD_eq_getElem?_getD,List.getElem?_eq_getElem hlt_j]; simp
      have hlen2:(c++((u.sl.take 6).take j).map (·.p)).length≤100:=by rw [List.length_append,List.length_map,List.length_take]; omega
      generalize (u.sl.take 6).getD j ⟨0,0,0⟩=y at hy hsn2
      generalize c++((u.sl.take 6).take j).map (·.p)=d at hsn2 hlen2
      rcases co d with hc | ⟨o,z,hc⟩
      ·rw [hc]
       repeat' first|exact (bbj (by assumption)).elim|refine QS rfl hG aa bh ?_|((conv=>whnf); first|refine anF ?_|refine anT ?_|refine anK ?_|refine And.intro (Int.natCast_nonneg j) (Exists.intro _ (And.intro hy ?_))|refine Or.inr (And.intro rfl (And.intro (Nat.le_of_ble_eq_true rfl) (And.intro (Nat.le_of_ble_eq_true rfl) (And.intro (Nat.le_of_ble_eq_true rfl) ?_))))|refine And.intro (fun h=>?_) (fun h=>?_)|refine Or.inl ?_)
       refine Exists.intro (j+1) (And.intro hlt_j (And.intro (by omega) ?_))
       (try dsimp only)
       rw [hsn2,hc]
       refine ai (And.intro (congrArg some (aq (by omega))) ?_) ?_
       ·repeat' (first | exact trivial | refine And.intro rfl ?_)
       ·repeat' (first | exact trivial | refine And.intro rfl ?_)
      ·rw [hc,dO]
       have hln:((o++[z]).map fun h=>[AV.int .i64 h]).length=o.length+1:=by simp
       have hlo:o.length≤100:=by rw [hc] at hlen2; simp at hlen2; omega
       repeat' first|exact (bbj (by assumption)).elim|refine QS rfl hG aa bh ?_|((conv=>whnf); first|refine anF ?_|refine anT ?_|refine anK ?_|refine And.intro (Int.natCast_nonneg j) (Exists.intro _ (And.intro hy ?_))|refine And.intro (Nat.le_of_ble_eq_true rfl) (And.intro (show ((((o++[z]).map fun h=>[AV.int .i64 h])).length+1)*8≤70368744177664 by rw [hln]; omega) (And.intro (show (((o++[z]).map fun h=>[AV.int .i64 h])).length+1≤4611686018427387904 by rw [hln]; omega) ?_))|refine And.intro (fun h=>?_) (fun h=>?_)|refine Or.inl ?_)
       refine Exists.intro (j+1) (And.intro hlt_j (And.intro (by omega) ?_))
       (try dsimp only)
       rw [hsn2,hc,qT]
       refine ai (And.intro (congrArg some (aq (by omega))) ?_) ?_
       ·repeat' (first | exact trivial | refine And.intro rfl ?_)
       ·repeat' (first | exact trivial | refine And.intro rfl ?_)
     ·have bbj:decide ((j:Int)<(((u.sl.take 6).map ax).length:Int))=true→False:=fun h=>by have:=of_decide_eq_true h; rw [List.length_map] at this; omega
      have he:(u.sl.take 6).take j=u.sl.take 6:=List.take_of_length_le (by omega)
      have hsn3:c++((u.sl.take 6).take j).map (·.p)=((l.take 8).take (i+1)).flatMap fj:=by rw [hsn,hpu,he]
      rw [hsn3]
      have hnx:∀ d,((l.take 8).take (i+1)).flatMap fj=d→((l.take 8).take (i+1)).flatMap fj=d:=fun _ h=>h
      generalize hdd:((l.take 8).take (i+1)).flatMap fj=d
      rcases co d with hc | ⟨o,z,hc⟩
      ·rw [hc]
       repeat' first|exact (bbj (by assumption)).elim|refine QS rfl hG aa bh ?_|((conv=>whnf); first|refine anF ?_|refine anT ?_|refine anK ?_|refine And.intro (fun h=>?_) (fun h=>?_)|refine Or.inl ?_)
       refine Exists.intro (i+1) (And.intro hlt_i (And.intro (by omega) ?_))
       (try dsimp only)
       rw [hdd,hc]
       refine ai (And.intro (congrArg some (aq (by omega))) ?_) ?_
       ·repeat' (first | exact trivial | refine And.intro rfl ?_)
       ·repeat' (first | exact trivial | refine And.intro rfl ?_)
      ·rw [hc,dO]
       repeat' first|exact (bbj (by assumption)).elim|refine QS rfl hG aa bh ?_|((conv=>whnf); first|refine anF ?_|refine anT ?_|refine anK ?_|refine And.intro (fun h=>?_) (fun h=>?_)|refine Or.inl ?_)
       refine Exists.intro (i+1) (And.intro hlt_i (And.intro (by omega) ?_))
       (try dsimp only)
       rw [hdd,hc,dO]
       refine ai (And.intro (congrArg some (aq (by omega))) ?_) ?_
       ·repeat' (first | exact trivial | refine And.intro rfl ?_)
       ·repeat' (first | exact trivial | refine And.intro rfl ?_)
  ·have bbk:decide ((i:Int)<(((l.take 8).map aA).length:Int))=true→False:=fun h=>by have:=of_decide_eq_true h; rw [List.length_map] at this; omega
   have he:(l.take 8).take i=l.take 8:=List.take_of_length_le (by omega)
   have hraw:((l.take 8).take i).flatMap fj=uN l:=by rw [he]; rfl
   have hlen:=tN (l.take 8)
   have hl8:(l.take 8).length≤8:=by rw [List.length_take]; omega
   have hlen:(uN l).length≤48:=Nat.le_trans hlen (by omega)
   have hfk:az l=Lib.compact (sortI (uN l)):=rfl
   rw [hraw,hfk]
   generalize uN l=c at hlen
   rcases co c with hc | ⟨o,z,hc⟩
   ·rw [hc]
    repeat' first|exact (bbk (by assumption)).elim|refine QS rfl hG aa bh ?_|((conv=>whnf); first|refine anF ?_|refine anT ?_|refine anK ?_|refine Exists.intro _ (And.intro (tc _) ?_)|refine Exists.intro _ (And.intro (pn _ 1) ?_)|refine And.intro (fun h=>?_) (fun h=>?_)|refine Or.inl ?_)
    have h0:Lib.compact (sortI [])=[]:=by simp [sortI,Lib.compact,Lib.compactUpTo]
    rw [h0]
    exact Ends.mk (Or.inl rfl) (ac rfl)
   ·rw [hc,dO]
    have hsl:(sortI (o++[z])).length≤1000000:=by unfold sortI; rw [List.length_mergeSort]; rw [hc] at hlen; omega
    have hso:(o++[z]).length≤1000000:=by rw [hc] at hlen; omega
    refine Q1 ?_
    refine Q4 hG aa bh (by kernel_rfl) ?_
    conv=>whnf
    refine Q1 ?_
    refine QC rfl (And.intro (fun h=>(bbk h).elim) (fun _=>?_))
    refine Q8 hG aa ?_
    conv=>whnf
    refine Q1 ?_
    refine SPB.oregW hG aa bh 1 (by kernel_rfl) ?_
    conv=>whnf
    refine And.intro rfl (Exists.intro _ (Exists.intro _ (And.intro (yG _ hso) (And.intro rfl (And.intro (xZ _).symm ?_)))))
    conv=>whnf
    refine Q1 ?_
    refine SPB.oregX hG aa bh 1 (by kernel_rfl) ?_
    conv=>whnf
    refine Exists.intro _ (Exists.intro _ (And.intro (tp _ hsl) (And.intro rfl (And.intro (Fi _) ?_))))
    rintro r rows' rfl _ _
    conv=>whnf
    repeat' first|refine QS rfl hG aa bh ?_|((conv=>whnf); first|refine anF ?_|refine anT ?_|refine anK ?_|refine And.intro (fun h=>?_) (fun h=>?_)|refine Or.inl ?_)
    exact Ends.mk (Or.inl rfl) (ac (congrArg (fun z=>AV.sl .no 1 z) (xZ _)))
end Go.Proofs
namespace Go.Proofs
open Go Go.AI
set_option maxRecDepth 10000
theorem Ij {n:Nat} (h:n≤6):IntKind.i64.wrap (1*2 ^ (min (n:Int).toNat IntKind.i64.bits))=((2 ^ n:Nat):Int):=by
 match n,h with
 | 0,_ | 1,_ | 2,_ | 3,_ | 4,_ | 5,_ | 6,_=>decide
theorem HH:((List.range 64).all fun b=>(List.range 6).all fun i=>(eq .and .i64 ((b:Int).fdiv (2 ^ (min (i:Int).toNat IntKind.i64.bits))) 1==1)==sd b i)=true:=by kernel_rfl
theorem IK {b i:Nat} (hb:b<64) (hi:i<6):(eq .and .i64 ((b:Int).fdiv (2 ^ (min (i:Int).toNat IntKind.i64.bits))) 1==1)=sd b i:=by
 have h:=List.all_eq_true.1 (List.all_eq_true.1 HH b (List.mem_range.2 hb)) i (List.mem_range.2 hi)
 exact beq_iff_eq.1 h
theorem EJ {n:Nat} (h:n≤6):2 ^ n≤64:=by
 match n,h with
 | 0,_ | 1,_ | 2,_ | 3,_ | 4,_ | 5,_ | 6,_=>decide
theorem Ai {f:List Int} {ps:List ao} {k:Int} {b n:Nat} (hb:b<n) (h:fC ps (dh f b) k=true):(eS f ps k n)[(eS f ps k b).length]?=some (dh f b):=by
 have e:eS f ps k n=eS f ps k (b+1)++((((List.range n).map (dh f)).drop (b+1)).filter fun l=>fC ps l k):=by
  unfold eS
  rw [← List.filter_append]
  congr 1
  have h1:(List.range (b+1)).map (dh f)=((List.range n).map (dh f)).take (b+1):=by
   rw [← List.map_take,List.take_range,Nat.min_eq_left (by omega)]
  rw [h1,List.take_append_drop]
 rw [e,pB,if_pos h,List.append_assoc,List.getElem?_append_right (Nat.le_refl _),Nat.sub_self]
 rfl
theorem uv (f:List Int) (ps:List ao) (k:Int):ae Tryz.prog 41 [aG f,ay ps,.int .i64 k] (.clo 69 [.ref [aG f],.ref [ay ps],.ref [.int .i64 k]]):=by
 refine ah aa Tryz.func41 rfl (by kernel_rfl) af (Nat.le_of_ble_eq_true rfl) ?_
 intro F n' w0 m0 hG hro h1
 repeat' first|refine QS rfl hG aa zi ?_|((conv=>whnf); first|refine anF ?_|refine anT ?_|refine anK ?_|refine And.intro (fun h=>?_) (fun h=>?_)|refine Or.inl ?_)
 all_goals exact Ends.mk (Or.inl rfl) (ac rfl)
set_option maxHeartbeats 8000000 in
theorem oh (f:List Int) (ps:List ao) (k:Int) (hf:f.length≤6) (hps:ps.length≤1000000):kf Tryz.prog (fun l=>[aG l]) 69 [.ref [aG f],.ref [ay ps],.ref [.int .i64 k]] (dV f ps k):=by
 have hfl:(f.map fun h=>[AV.int .i64 h]).length=f.length:=List.length_map _
 have h64:=EJ hf
 refine kf.of Tryz.func69 rfl (by kernel_rfl) af (Nat.le_of_ble_eq_true rfl) rfl ?_
 intro F n m y J Jx hY
 repeat' first|refine MPB.seq ?_|refine MPB.block ?_|refine MPB.reg hY aa ea (by kernel_rfl) ?_|refine MPB.skip ?_|refine MPB.label ?_|refine MPB.ret ?_|refine MPB.exit ?_|refine MPB.condT rfl ?_|refine MPB.condF rfl ?_|refine MPB.cond rfl (And.intro (fun h=>?_) (fun h=>?_))|((conv=>whnf); first|refine anF ?_|refine anT ?_|refine anK ?_|refine And.intro (Int.natCast_nonneg _) ?_|refine And.intro (fun h=>?_) (fun h=>?_)|refine Or.inl ?_)
 refine MPB.loop (X:=Nat) (fun b=>((false,(eS f ps k b).length),⟨[(12,.int .i64 b),(11,.int .i64 ((2 ^ f.length:Nat):Int)),(3,.ref [.int .i64 k]),(2,.ref [ay ps]),(1,.ref [aG f]),(0,.lit (.func (.yield y) #[] #[]))],[]⟩)) (fun b=>b≤2 ^ f.length) (fun b=>2 ^ f.length - b) 0 (Nat.zero_le _) rfl (ai ?_ ?_) (fun b hb=>?_)
 ·refine And.intro rfl (And.intro (congrArg (fun z=>some (AV.int .i64 z)) ?_) ?_)
  ·rw [hfl]; exact Ij hf
  ·repeat' (first | exact trivial | refine And.intro rfl ?_)
 ·repeat' (first | exact trivial | refine And.intro rfl ?_)
 ·by_cases hlt:b<2 ^ f.length
  ·have bbk:decide ((b:Int)<((2 ^ f.length:Nat):Int))=false→False:=fun h=>by have:=of_decide_eq_false h; omega
   repeat' first|exact (bbk (by assumption)).elim|refine MPB.seq ?_|refine MPB.block ?_|refine MPB.reg hY aa ea (by kernel_rfl) ?_|refine MPB.skip ?_|refine MPB.label ?_|refine MPB.ret ?_|refine MPB.exit ?_|refine MPB.condT rfl ?_|refine MPB.condF rfl ?_|refine MPB.cond rfl (And.intro (fun h=>?_) (fun h=>?_))|((conv=>whnf); first|refine anF ?_|refine anT ?_|refine anK ?_|refine And.intro (fun h=>?_) (fun h=>?_)|refine Or.inl ?_)
   refine MPB.loop (X:=Nat) (fun i=>((false,(eS f ps k b).length),⟨[(17,.int .i64 i),(6,.sl (.id 6) 1 ((dK f b i).map fun h=>[AV.int .i64 h])),(16,.int .i64 (f.map fun h=>[AV.int .i64 h]).length),(15,aG f),(5,.int .i64 b),(12,.int .i64 b),(11,.int .i64 ((2 ^ f.length:Nat):Int)),(3,.ref [.int .i64 k]),(2,.ref [ay ps]),(1,.ref [aG f]),(0,.lit (.func (.yield y) #[] #[]))],[]⟩)) (fun i=>i≤f.length) (fun i=>f.length - i) 0 (Nat.zero_le _) rfl (ai ?_ ?_) (fun i hi=>?_)
   ·repeat' (first | exact trivial | refine And.intro rfl ?_)
   ·repeat' (first | exact trivial | refine And.intro rfl ?_)
   ·by_cases hli:i<f.length
    ·have bbi:decide ((i:Int)<((f.map fun h=>[AV.int .i64 h]).length:Int))=false→False:=fun h=>by have:=of_decide_eq_false h; rw [hfl] at this; omega
     have hx:(f.map fun h=>[AV.int .i64 h])[(i:Int).toNat]?=some [.int .i64 (f.getD i 0)]:=by simp [List.getElem?_eq_getElem hli]
     have hbit:=IK (b:=b) (i:=i) (by omega) (by omega)
     have hst:=mB (b:=b) hli
     have hln:((dK f b i).map fun h=>[AV.int .i64 h]).length≤6:=by rw [List.length_map]; have:=iY f b i; omega
     generalize f.getD i 0=v at hx hst
     repeat' first|exact (bbi (by assumption)).elim|refine MPB.seq ?_|refine MPB.block ?_|refine MPB.reg hY aa ea (by kernel_rfl) ?_|refine MPB.skip ?_|refine MPB.label ?_|refine MPB.ret ?_|refine MPB.exit ?_|refine MPB.condT rfl ?_|refine MPB.condF rfl ?_|refine MPB.cond rfl (And.intro (fun h=>?_) (fun h=>?_))|((conv=>whnf); first|refine anF ?_|refine anT ?_|refine anK ?_|refine And.intro (Int.natCast_nonneg i) (Exists.intro _ (And.intro hx ?_))|refine And.intro (Int.natCast_nonneg i) ?_|refine And.intro (show (((dK f b i).map fun h=>[AV.int .i64 h]).length+1)*8≤70368744177664 by omega) (And.intro (show ((dK f b i).map fun h=>[AV.int .i64 h]).length+1≤4611686018427387904 by omega) ?_)|refine And.intro (fun h=>?_) (fun h=>?_)|refine Or.inl ?_)
     ·have ht:sd b i=true:=by rw [← hbit]; assumption
      rw [if_pos ht] at hst
      refine Exists.intro (i+1) (And.intro hli (And.intro (by omega) (And.intro rfl (ai ?_ ?_))))
      ·refine And.intro (congrArg some (aq (by omega))) (And.intro (congrArg (fun z=>some (AV.sl (.id 6) 1 z)) ?_) ?_)
       ·rw [hst,List.map_append]; rfl
       ·repeat' (first | exact trivial | refine And.intro rfl ?_)
      ·repeat' (first | exact trivial | refine And.intro rfl ?_)
     ·have ht:sd b i=false:=by rw [← hbit]; assumption
      rw [if_neg (by rw [ht]; decide),List.append_nil] at hst
      refine Exists.intro (i+1) (And.intro hli (And.intro (by omega) (And.intro rfl (ai ?_ ?_))))
      ·refine And.intro (congrArg some (aq (by omega))) (And.intro (congrArg (fun z=>some (AV.sl (.id 6) 1 z)) ?_) ?_)
       ·rw [hst]
       ·repeat' (first | exact trivial | refine And.intro rfl ?_)
      ·repeat' (first | exact trivial | refine And.intro rfl ?_)
    ·have bbi:decide ((i:Int)<((f.map fun h=>[AV.int .i64 h]).length:Int))=true→False:=fun h=>by have:=of_decide_eq_true h; rw [hfl] at this; omega
     have he:i=f.length:=by omega
     have hsub:dK f b i=dh f b:=by rw [he]; rfl
     rw [hsub]
     have hsl:(dh f b).length≤1000000:=Nat.le_trans (iY f b f.length) (by omega)
     have hsucc:=pB f ps k b
     have hitem:fC ps (dh f b) k=true→(dV f ps k)[(eS f ps k b).length]?=some (dh f b):=Ai hlt
     have cA:=wG ps (dh f b) k hsl hps
     generalize dh f b=u at *
     repeat' first|exact (bbi (by assumption)).elim|refine MPB.seq ?_|refine MPB.block ?_|refine MPB.reg hY aa ea (by kernel_rfl) ?_|refine MPB.skip ?_|refine MPB.label ?_|refine MPB.ret ?_|refine MPB.exit ?_|refine MPB.condT rfl ?_|refine MPB.condF rfl ?_|refine MPB.cond rfl (And.intro (fun h=>?_) (fun h=>?_))|((conv=>whnf); first|refine anF ?_|refine anT ?_|refine anK ?_|refine Exists.intro _ (And.intro (cA) ?_)|refine And.intro (fun h=>?_) (fun h=>?_)|refine Or.inl ?_)
     ·have ha:fC ps u k=true:=by assumption
      rw [if_pos ha] at hsucc
      refine Exists.intro u (And.intro (hitem ha) (And.intro rfl (fun t ht=>?_)))
      subst ht
      refine And.intro ?_ ?_
      ·repeat' first|refine MPB.seq ?_|refine MPB.block ?_|refine MPB.reg hY aa ea (by kernel_rfl) ?_|refine MPB.skip ?_|refine MPB.label ?_|refine MPB.ret ?_|refine MPB.exit ?_|refine MPB.condT rfl ?_|refine MPB.condF rfl ?_|refine MPB.cond rfl (And.intro (fun h=>?_) (fun h=>?_))|((conv=>whnf); first|refine anF ?_|refine anT ?_|refine anK ?_|refine And.intro (fun h=>?_) (fun h=>?_)|refine Or.inl ?_)
       refine Exists.intro (b+1) (And.intro hlt (And.intro (by omega) (And.intro (congrArg (Prod.mk false) (by rw [hsucc]; simp)) (ai ?_ ?_))))
       ·refine And.intro (congrArg some (aq (by omega))) ?_
        repeat' (first | exact trivial | refine And.intro rfl ?_)
       ·repeat' (first | exact trivial | refine And.intro rfl ?_)
      ·repeat' first|refine MPB.seq ?_|refine MPB.block ?_|refine MPB.reg hY aa ea (by kernel_rfl) ?_|refine MPB.skip ?_|refine MPB.label ?_|refine MPB.ret ?_|refine MPB.exit ?_|refine MPB.condT rfl ?_|refine MPB.condF rfl ?_|refine MPB.cond rfl (And.intro (fun h=>?_) (fun h=>?_))|((conv=>whnf); first|refine anF ?_|refine anT ?_|refine anK ?_|refine And.intro (fun h=>?_) (fun h=>?_)|refine Or.inl ?_)
       exact fp.mk (Or.inl rfl) (Or.inr rfl)
     ·have ha:fC ps u k=false:=by assumption
      rw [if_neg (by rw [ha]; decide),List.append_nil] at hsucc
      refine Exists.intro (b+1) (And.intro hlt (And.intro (by omega) (And.intro (congrArg (Prod.mk false) (by rw [hsucc])) (ai ?_ ?_))))
      ·refine And.intro (congrArg some (aq (by omega))) ?_
       repeat' (first | exact trivial | refine And.intro rfl ?_)
      ·repeat' (first | exact trivial | refine And.intro rfl ?_)
  ·have bbk:decide ((b:Int)<((2 ^ f.length:Nat):Int))=true→False:=fun h=>by have:=of_decide_eq_true h; omega
   have he:b=2 ^ f.length:=by omega
   repeat' first|exact (bbk (by assumption)).elim|refine MPB.seq ?_|refine MPB.block ?_|refine MPB.reg hY aa ea (by kernel_rfl) ?_|refine MPB.skip ?_|refine MPB.label ?_|refine MPB.ret ?_|refine MPB.exit ?_|refine MPB.condT rfl ?_|refine MPB.condF rfl ?_|refine MPB.cond rfl (And.intro (fun h=>?_) (fun h=>?_))|((conv=>whnf); first|refine anF ?_|refine anT ?_|refine anK ?_|refine And.intro (fun h=>?_) (fun h=>?_)|refine Or.inl ?_)
   exact fp.mk (Or.inr rfl) (Or.inl (congrArg (Prod.mk false) (by rw [he]; rfl)))
def od (l:List Opt) (ps:List ao) (k:Int):Bool:=decide ((l.length:Int)>8)||(decide (k<0)||(decide (k>3)||(!cH ps||l.any fun o => !eV o ps)))
def fE (l:List Opt) (ps:List ao) (k:Int):Bool:=od l ps k||decide (((az l).length:Int)>6)
def qO (l:List (List Int)):AV := .sl .no 1 (l.map fun x=>[aG x])
def w9 (l:List Opt) (ps:List ao) (k:Int):AV := .tup (if fE l ps k then [.sl .full 0 [],.int .i64 210] else [qO (dV (az l) ps k),.int .i64 0])
theorem sF (o:Opt) (ps:List ao) (hl:o.sl.length≤1000000) (hps:ps.length≤1000000):ae Tryz.prog 37 ((.agg (aA o))::[.ref [ay ps]]) (.bool (!eV o ps)):=by
 refine ah aa Tryz.func37 rfl (by kernel_rfl) af (Nat.le_of_ble_eq_true rfl) ?_
 intro F n' w0 m0 hG hro h1
 repeat' first|refine QS rfl hG aa zk ?_|((conv=>whnf); first|refine anF ?_|refine anT ?_|refine anK ?_|refine Exists.intro _ (And.intro (pV o ps hl hps) ?_)|refine And.intro (fun h=>?_) (fun h=>?_)|refine Or.inl ?_)
 all_goals exact Ends.mk (Or.inl rfl) (ac rfl)
theorem sE (l:List Opt) (ps:List ao) (k:Int) (hl:l.length≤1000000) (hs:ku l) (hps:ps.length≤1000000):ae Tryz.prog 13 [aZ l,ay ps,.int .i64 k] (w9 l ps k):=by
 have cB:=jp l (fun o => !eV o ps) 37 _ [.ref [ay ps]] (Or.inl rfl) hl (fun o ho=>sF o ps (hs o ho) hps)
 have hlm:((l.map aA).length:Int)=(l.length:Int):=by rw [List.length_map]
 have hfm:(((az l).map fun h=>[AV.int .i64 h]).length:Int)=((az l).length:Int):=by rw [List.length_map]
 refine ah aa Tryz.func13 rfl (by kernel_rfl) af (Nat.le_of_ble_eq_true rfl) ?_
 intro F n' w0 m0 hG hro h1
 repeat' first|refine QS rfl hG aa iM ?_|((conv=>whnf); first|refine anF ?_|refine anT ?_|refine anK ?_|refine Exists.intro _ (And.intro (ey ps hps) ?_)|refine Exists.intro _ (And.intro (cB) ?_)|refine Exists.intro _ (And.intro (fD l hl hs) ?_)|refine Exists.intro _ (And.intro (uv _ _ _) ?_)|refine And.intro (fun h=>?_) (fun h=>?_)|refine Or.inl ?_)
 all_goals first
  |(refine Ends.mk (Or.inl rfl) (ac ?_)
    have h:fE l ps k=true:=by clear hG; grind [fE,od]
    simp only [w9,h,if_true]; rfl)
  | skip
 have hnb:fE l ps k=false:=by clear hG; grind [fE,od]
 have hf6:(az l).length≤6:=by
  simp only [fE,Bool.or_eq_false_iff,decide_eq_false_iff_not] at hnb; omega
 have hseq:=oh (az l) ps k hf6 hps
 have hlen:(dV (az l) ps k).length≤64:=by
  unfold dV eS
  refine Nat.le_trans (List.length_filter_le _ _) ?_
  rw [List.length_map,List.length_range]; exact EJ hf6
 rw [w9,hnb,if_neg (by decide)]
 generalize dV (az l) ps k=items at hseq hlen
 refine SPB.resize 6 0 1006000 1 rfl rfl ?_
 conv=>whnf
 refine ⟨SP.rangeM hG hro (Nat.le_trans (by decide) h1) (α:=List Int) (fun l=>[aG l]) (f:=69) (cap:=[.ref [aG (az l)],.ref [ay ps],.ref [.int .i64 k]]) (items:=items) rfl hseq (fun _=>rfl) (fun _=>[(6,.loc 6 0)]) [6] (fun _=>rfl)
  (fun p=>[(6,[.sl (.id 1006000) 1 (p.map fun x=>[aG x])])]) (ai ?_ ?_) (by kernel_rfl) (by decide) ?_ ?_⟩
 ·repeat' (first | exact trivial | refine And.intro rfl ?_)
 ·repeat' (first | exact trivial | refine And.intro rfl ?_)
 ·intro F' n'' m' hG' pre x rest hx
  clear hG
  have hG:=hG'
  have hpl:pre.length<64:=by
   have:=congrArg List.length hx
   simp at this; omega
  have hrow:(pre++[x]).map (fun x=>[aG x])=pre.map (fun x=>[aG x])++[[aG x]]:=by simp
  have hln:(pre.map fun x=>[aG x]).length<64:=by simpa using hpl
  generalize (pre.map fun x=>[aG x])=row at hrow hln
  refine SPB.out (Q4 hG aa iM (by kernel_rfl) ?_)
  conv=>whnf
  refine And.intro rfl (And.intro (ai ?_ ?_) ?_)
  ·repeat' (first | exact trivial | refine And.intro rfl ?_)
  ·repeat' (first | exact trivial | refine And.intro rfl ?_)
  refine SPB.out ?_
  repeat' first|refine QS rfl hG aa iM ?_|((conv=>whnf); first|refine anF ?_|refine anT ?_|refine anK ?_|refine And.intro (show (row.length+1)*24≤70368744177664 by omega) (And.intro (show row.length+1≤4611686018427387904 by omega) ?_)|refine And.intro (fun h=>?_) (fun h=>?_)|refine Or.inl ?_)
  refine ai ?_ ?_
  ·repeat' (first | exact trivial | refine And.intro rfl ?_)
  ·dsimp only; rw [hrow]; repeat' (first | exact trivial | refine And.intro rfl ?_)
 ·conv=>whnf
  repeat' first|refine QS rfl hG aa iM ?_|((conv=>whnf); first|refine anF ?_|refine anT ?_|refine anK ?_|refine And.intro (fun h=>?_) (fun h=>?_)|refine Or.inl ?_)
  all_goals exact Ends.mk (Or.inl rfl) (ac rfl)
end Go.Proofs
namespace Go.Proofs
open Go Go.AI
set_option maxRecDepth 10000
def rN (o:Opt) (k:Nat):Img:=if k<o.sl.length then ⟨o.id,o.size,o.a,(aN o k).b⟩ else ⟨o.id,o.size,o.a,fk o⟩
def sY (o:Opt) (k:Nat):Opt:=if k<o.sl.length then { o with sl:=o.sl.take (k+1) } else o
theorem ud:∀ (l:List aS) (t:Int),eH t l=true→∀ x∈l,t≤x.a∧x.a<x.b
 | [],_,_,x,hx=>nomatch hx
 | y::r,t,h,x,hx=>by
  simp only [eH,lS,Bool.and_eq_true,decide_eq_true_eq] at h
  rcases List.mem_cons.1 hx with rfl | hx
  ·omega
  ·have:=ud r y.b h.2 x hx
   omega
theorem rk:∀ (l pre:List Img),eU pre l=true↔(∀ x∈l,(0≤x.i∧x.i≤63)∧(1≤x.u∧x.u≤1000000)∧0≤x.a∧x.a<x.b∧x.b≤1000001)∧l.Pairwise (fun x y=>x.i≠y.i)∧∀ p∈pre,∀ x∈l,p.i≠x.i
 | [],pre=>by simp [eU]
 | x::r,pre=>by
  rw [eU,Bool.and_eq_true,rk r (pre++[x]),nK,mH]
  simp only [inM,spM,Bool.and_eq_true,Bool.not_eq_true',decide_eq_true_eq,List.any_eq_false,beq_iff_eq,List.mem_cons,List.pairwise_cons,forall_eq_or_imp,List.mem_append,List.not_mem_nil,or_false]
  constructor
  ·rintro ⟨⟨g1,g2,g3,g4⟩,g5,g6,g7⟩
   exact ⟨⟨⟨g1,g3,g4.1,g4.2.1,g4.2.2⟩,g5⟩,⟨fun y hy=>g7 x (.inr rfl) y hy,g6⟩,fun p hp=>⟨fun e=>g2 p hp e,fun y hy=>g7 p (.inl hp) y hy⟩⟩
  ·rintro ⟨⟨⟨g1,g3,g4,g4',g4''⟩,g5⟩,⟨g6,g7⟩,g8⟩
   refine ⟨⟨g1,fun p hp e=>(g8 p hp).1 e,g3,g4,g4',g4''⟩,g5,g7,fun p hp y hy=>?_⟩
   rcases hp with hp | rfl
   ·exact (g8 p hp).2 y hy
   ·exact g6 y hy
theorem BA {o:Opt} {k:Nat} (h:k<o.sl.length):aN o k∈o.sl:=by
 unfold aN
 rw [List.getD_eq_getElem?_getD,List.getElem?_eq_getElem h]
 exact List.getElem_mem h
end Go.Proofs
