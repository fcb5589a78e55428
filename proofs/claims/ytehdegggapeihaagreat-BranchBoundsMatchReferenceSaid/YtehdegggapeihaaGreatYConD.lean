/- Contracts of the functions and plain facts about what they reckon, part 4: called with arguments that read so, each hands back what is typed. The conditions are those typed. -/
import Derived.Test.YtehdegggapeihaaGreatYConC
import Derived.Lib.SlicesCompact
import Derived.Shelf.Lays
import Derived.Shelf.Lays2
set_option linter.unusedSectionVars false
set_option linter.unusedVariables false
set_option linter.unusedSimpArgs false
namespace Go.Proofs
open Go Go.AI
set_option maxRecDepth 10000
theorem mH (c n:Int) (hn:n≠0):ae Tryz.prog 44 [.int .i64 c,.int .i64 n] (.int .i64 (ar c n)):=by
 refine ag aa Tryz.func44 rfl (by kernel_rfl) af (Nat.le_of_ble_eq_true rfl) ?_
 intro F n' w0 m0 hG hro h1
 repeat' first|refine Q1 ?_|refine Q2 ?_|refine Q3 hG aa qR ?_|refine Q4 hG aa qR ?_|refine Q5 hG aa ?_|refine Q6 hG aa ?_|refine Q7 hG aa ?_|refine Q8 hG aa ?_|refine Q9 rfl ?_|refine QF rfl ?_|refine QC rfl ⟨fun h=>?_,fun h=>?_⟩|((conv=>whnf); first|refine anF ?_|refine anT ?_|refine anK ?_|refine And.intro hn ?_|refine And.intro (fun h=>?_) (fun h=>?_)|refine Or.inl ?_)
 all_goals refine Ends.mk (Or.inl rfl) (ac (congrArg (AV.int .i64) ?_))
 all_goals (simp_all [ar,w64] <;> omega)
theorem CA (o:Opt):ae Tryz.prog 43 [.agg (aH o)] (.agg (aH (xA o))):=by
 have h0:0≤min ((o.sl.map ay).length:Int) 7:=by omega
 have h7:(min ((o.sl.map ay).length:Int) 7).toNat≤(o.sl.map ay).length:=by omega
 have hr:(((o.sl.map ay).take (min ((o.sl.map ay).length:Int) 7).toNat).drop 0)=(xA o).sl.map ay:=by
  rw [List.drop_zero,xA,List.map_take,List.length_map]
  rcases Nat.le_total o.sl.length 7 with h | h
  ·rw [List.take_of_length_le (by simp; omega),List.take_of_length_le (by simp; omega)]
  ·rw [show (min (o.sl.length:Int) 7).toNat=7 by omega]
 refine ag aa Tryz.func43 rfl (by kernel_rfl) af (Nat.le_of_ble_eq_true rfl) ?_
 intro F n' w0 m0 hG hro h1
 repeat' first|refine Q1 ?_|refine Q2 ?_|refine Q3 hG aa qS ?_|refine Q4 hG aa qS ?_|refine Q5 hG aa ?_|refine Q6 hG aa ?_|refine Q7 hG aa ?_|refine Q8 hG aa ?_|refine Q9 rfl ?_|refine QF rfl ?_|refine QC rfl ⟨fun h=>?_,fun h=>?_⟩|((conv=>whnf); first|refine anF ?_|refine anT ?_|refine anK ?_|refine And.intro h0 (And.intro (Nat.zero_le _) (And.intro h7 ?_))|refine And.intro (fun h=>?_) (fun h=>?_)|refine Or.inl ?_)
 all_goals exact Ends.mk (Or.inl rfl) (ac (congrArg (fun z=>AV.agg [.int .i64 o.id,.int .i64 o.ord,.int .i64 o.cl,.int .i64 o.sat,.int .i64 o.a,.int .i64 o.b,.int .i64 o.look,.int .i64 o.size,.sl .no 3 z]) hr))
end Go.Proofs
namespace Go.Proofs
open Go Go.AI
set_option maxRecDepth 10000
namespace bX
def ga (c:bX):Int:=ar c.from_ 900000
def gb (c:bX):Int:=c.ga+240
def gps (c:bX):List am:=gH (c.s 0) c.ga c.z
def gl (c:bX):List Opt:=Am c.s c.gps c.ga 10 c.v
end bX
theorem bX.grng (c:bX):0≤c.ga∧c.ga<900000:=aM c.hf (n:=900000) (by omega)
theorem bX.gpasses (c:bX):bz c.gps=true∧c.gps.length≤6∧∀ p∈c.gps,c.ga≤p.sa∧p.sa<p.sb∧p.sb≤c.ga+186:=
 A7 (by rw [c.s0]; omega) (by have:=c.grng; omega) c.hz
theorem bX.goptH (c:bX):Hj c.s c.gps c.ga 10:=by
 obtain ⟨h1,h2,h3,_⟩:=Ab c.sat
 have hr:=c.grng
 obtain ⟨p1,p2,p3⟩:=c.gpasses
 exact ⟨h1,h2,h3,by omega,by omega,by omega,fun p hp=>by have:=p3 p hp; omega⟩
theorem bX.glen (c:bX):c.gl.length≤5:=Nat.le_trans (mf _ _ _ _ _ _) (Nat.min_le_right _ _)
theorem bX.gvalid (c:bX):aY c.s c.gl c.gps c.ga c.gb=true:=by
 obtain ⟨p1,p2,p3⟩:=c.gpasses
 have hr:=c.grng
 have hl:=c.glen
 refine ba.2 ⟨by omega,by unfold bX.gb; omega,by unfold bX.gb; omega,c.sat,p1,fun o ho=>?_,rW c.hv _ (Nat.min_le_left _ _)⟩
 obtain ⟨h1,h2,_⟩:=mb c.hv _ (Nat.min_le_left _ _) o ho
 have hf:dG c.s o c.gps=true:=by simp only [gt,Bool.and_eq_true] at h1; exact h1.2
 refine ⟨hf,h2,BB (fun p hp=>?_) (by omega) hf⟩
 have:=p3 p hp
 unfold bX.gb; omega
theorem zP (c:bX):ae Tryz.prog 42 [.agg (xO c)] (.tup [.agg (aU c.s),aK c.gl,al c.gps,.agg (aD c.ga c.gb)]):=by
 have cA:ae Tryz.prog 44 [.int .i64 c.from_,.int .i64 900000] (.int .i64 c.ga):=mH _ _ (by decide)
 have cS:ae Tryz.prog 69 [.int .i64 3,.agg (jb c.x),.agg (i4A c.y)] (.agg (aU c.s)):=EK c.x c.y (FC c.hx)
 have hr:=c.grng
 have cP:ae Tryz.prog 70 [.int .i64 3,.int .i64 c.ga,.sl .no 3 (c.z.map ke)] (al c.gps):=by
  have h:=yg (c.s 0) c.ga c.z (by rw [c.s0]; omega) (by omega) c.hz
  rw [c.s0] at h
  have e:c.gps=gH 3 c.ga c.z:=by unfold bX.gps; rw [c.s0]
  rw [e]; exact h
 have cO:ae Tryz.prog 71 [.agg (aU c.s),al c.gps,.int .i64 c.ga,.int .i64 10,.sl .no 5 (c.v.map kd)] (aK c.gl):=vX c.s c.gps c.ga 10 c.v c.goptH c.hv
 have hb:IntKind.i64.wrap (c.ga+240)=c.gb:=ai (by omega) (by omega)
 generalize c.gb=b at *
 generalize c.ga=a at *
 generalize c.s=s at *
 generalize c.gps=ps at *
 generalize c.gl=l at *
 refine ag aa Tryz.func42 rfl (by kernel_rfl) af (Nat.le_of_ble_eq_true rfl) ?_
 intro F n' w0 m0 hG hro h1
 repeat' first|refine Q1 ?_|refine Q2 ?_|refine Q3 hG aa qT ?_|refine Q4 hG aa qT ?_|refine Q5 hG aa ?_|refine Q6 hG aa ?_|refine Q7 hG aa ?_|refine Q8 hG aa ?_|refine Q9 rfl ?_|refine QF rfl ?_|refine QC rfl ⟨fun h=>?_,fun h=>?_⟩|((conv=>whnf); first|refine anF ?_|refine anT ?_|refine anK ?_|refine Exists.intro _ (And.intro (cA) ?_)|refine Exists.intro _ (And.intro (cS) ?_)|refine Exists.intro _ (And.intro (cP) ?_)|refine Exists.intro _ (And.intro (cO) ?_)|refine And.intro (fun h=>?_) (fun h=>?_)|refine Or.inl ?_)
 all_goals exact Ends.mk (Or.inl rfl) (ac (congrArg (fun z=>AV.tup [.agg (aU s),aK l,al ps,.agg (aD a z)]) hb))
end Go.Proofs
namespace Go.Proofs
open Go Go.AI
def asc (l:List Int):Prop:=l.Pairwise (·<·)
theorem AK:∀ {l m:List Int},asc l→asc m→(∀ x,x∈l↔x∈m)→l=m
 | [],[],_,_,_=>rfl
 | [],y::m,_,_,h=>absurd ((h y).2 List.mem_cons_self) (by simp)
 | x::l,[],_,_,h=>absurd ((h x).1 List.mem_cons_self) (by simp)
 | x::l,y::m,hl,hm,h=>by
  obtain ⟨hl1,hl2⟩:=List.pairwise_cons.1 hl
  obtain ⟨hm1,hm2⟩:=List.pairwise_cons.1 hm
  have e:x=y:=by
   rcases List.mem_cons.1 ((h x).1 List.mem_cons_self) with h1 | h1
   ·exact h1
   ·rcases List.mem_cons.1 ((h y).2 List.mem_cons_self) with h2 | h2
    ·exact h2.symm
    ·have:=hl1 y h2; have:=hm1 x h1; omega
  subst e
  rw [AK hl2 hm2 fun z=>?_]
  constructor
  ·intro hz
   rcases List.mem_cons.1 ((h z).1 (List.mem_cons_of_mem _ hz)) with h1 | h1
   ·have:=hl1 z hz; omega
   ·exact h1
  ·intro hz
   rcases List.mem_cons.1 ((h z).2 (List.mem_cons_of_mem _ hz)) with h1 | h1
   ·have:=hm1 z hz; omega
   ·exact h1
theorem uy (d:Array Int):∀ j:Nat,∃ k,k≤j∧Lib.keeps d k=true∧d[k]! = d[j]!
 | 0=>⟨0,Nat.le_refl _,by simp [Lib.keeps],rfl⟩
 | j+1=>by
  by_cases h:d[j+1]! = d[j]!
  ·obtain ⟨k,h1,h2,h3⟩:=uy d j
   exact ⟨k,by omega,h2,by rw [h3,h]⟩
  ·exact ⟨j+1,Nat.le_refl _,by simp only [Lib.keeps,Nat.add_sub_cancel,decide_eq_true_eq]; exact .inr h,rfl⟩
theorem vp {zs:List Int} {x:Int}:x∈Lib.compact zs↔x∈zs:=by
 unfold Lib.compact Lib.compactUpTo
 simp only [List.mem_map,List.mem_filter,List.mem_range]
 constructor
 ·rintro ⟨j,⟨hj,_⟩,rfl⟩
  simp [hj]
 ·intro h
  obtain ⟨j,hj,rfl⟩:=List.getElem_of_mem h
  obtain ⟨k,h1,h2,h3⟩:=uy zs.toArray j
  exact ⟨k,⟨by omega,h2⟩,by rw [h3]; simp [hj]⟩
theorem xS {zs:List Int} (h:zs.Pairwise (·≤·)):asc (Lib.compact zs):=by
 have hmono:∀ i j,i≤j→j<zs.length→zs.toArray[i]!≤zs.toArray[j]! := fun i j hij hj=>by
  rcases Nat.lt_or_eq_of_le hij with h1 | h1
  ·have:=List.pairwise_iff_getElem.1 h i j (by omega) hj h1
   simpa [hj,show i<zs.length by omega] using this
  ·subst h1; exact Int.le_refl _
 unfold asc Lib.compact Lib.compactUpTo
 rw [List.pairwise_map]
 refine List.Pairwise.imp_of_mem ?_ ((List.pairwise_lt_range (n:=zs.length)).filter (Lib.keeps zs.toArray))
 intro i j hi hj hij
 obtain ⟨_,_⟩:=List.mem_filter.1 hi
 obtain ⟨h1,h2⟩:=List.mem_filter.1 hj
 rw [List.mem_range] at h1
 simp only [Lib.keeps,decide_eq_true_eq] at h2
 rcases h2 with h2 | h2
 ·omega
 ·have h3:=hmono i (j - 1) (by omega) (by omega)
  have h4:=hmono (j - 1) j (by omega) h1
  omega
def tJ (l:List Opt):List Int:=(l.take 8).flatMap fun o=>(o.sl.take 6).map (·.p)
def sortI (l:List Int):List Int:=l.mergeSort fun x y=>decide (x≤y)
def az (l:List Opt):List Int:=Lib.compact (sortI (tJ l))
theorem CM (l:List Int):(sortI l).Pairwise (·≤·):=by
 have h:=List.pairwise_mergeSort (le:=fun x y:Int=>decide (x≤y)) (fun a b c h1 h2=>by simp at *; omega) (fun a b=>by simp; omega) l
 exact h.imp fun h=>by simpa using h
theorem pJ (l:List Opt):asc (az l):=xS (CM _)
theorem uv {l:List Opt} {x:Int}:x∈az l↔x∈tJ l:=by
 unfold az sortI
 rw [vp,List.mem_mergeSort]
def jp (l:List Int) (n:Int):List Int:=if (l.dropWhile (fun x=>decide (x<n))).head?=some n then l else l.takeWhile (fun x=>decide (x<n))++n::l.dropWhile (fun x=>decide (x<n))
theorem zj {l:List Int} {n y:Int} (h:(l.dropWhile fun x=>decide (x<n)).head?=some y):¬ y<n:=by
 have:=List.head?_dropWhile_not (fun x=>decide (x<n)) l
 rw [h] at this
 simpa using this
theorem Di {l:List Int} {n x:Int}:x∈jp l n↔x∈l∨x=n:=by
 unfold jp
 have e:=List.takeWhile_append_dropWhile (p:=fun x=>decide (x<n)) (l:=l)
 split
 ·rename_i h
  have hm:n∈l:=by
   rw [← e,List.mem_append]
   exact .inr (List.mem_of_mem_head? (by rw [h]; rfl))
  constructor
  ·exact .inl
  ·rintro (h | h)
   ·exact h
   ·rw [h]; exact hm
 ·have:x∈l↔x∈l.takeWhile (fun x=>decide (x<n))∨x∈l.dropWhile (fun x=>decide (x<n)):=by
   rw [← List.mem_append,e]
  rw [this]
  simp only [List.mem_append,List.mem_cons]
  constructor
  ·rintro (h | h | h)
   ·exact .inl (.inl h)
   ·exact .inr h
   ·exact .inl (.inr h)
  ·rintro ((h | h) | h)
   ·exact .inl h
   ·exact .inr (.inr h)
   ·exact .inr (.inl h)
theorem DY {l:List Int} {n:Int} (hl:asc l):asc (jp l n):=by
 unfold jp
 split
 ·exact hl
 ·rename_i hne
  have e:=List.takeWhile_append_dropWhile (p:=fun x=>decide (x<n)) (l:=l)
  have hl2:asc (l.takeWhile (fun x=>decide (x<n))++l.dropWhile (fun x=>decide (x<n))):=by rw [e]; exact hl
  obtain ⟨h1,h2,h3⟩:=List.pairwise_append.1 hl2
  have ht:∀ x∈l.takeWhile (fun x=>decide (x<n)),x<n:=fun x hx=>by
   have:=List.all_eq_true.1 (List.all_takeWhile (l:=l) (p:=fun x=>decide (x<n))) x hx
   simpa using this
  have hd:∀ y∈l.dropWhile (fun x=>decide (x<n)),n<y:=by
   cases hdw:l.dropWhile (fun x=>decide (x<n)) with
   | nil=>simp
   | cons z r=>
    rw [hdw] at hne h2
    have hz:¬ z<n:=zj (l:=l) (n:=n) (y:=z) (by rw [hdw]; rfl)
    have hz2:z≠n:=fun e=>hne (by simp [e])
    intro y hy
    rcases List.mem_cons.1 hy with h | h
    ·omega
    ·have:=(List.pairwise_cons.1 h2).1 y h; omega
  refine List.pairwise_append.2 ⟨h1,List.pairwise_cons.2 ⟨hd,h2⟩,fun x hx y hy=>?_⟩
  rcases List.mem_cons.1 hy with h | h
  ·rw [h]; exact ht x hx
  ·have:=ht x hx; have:=hd y h; omega
theorem sK:∀ (r l:List Int),asc l→asc (r.foldl jp l)∧∀ x,x∈r.foldl jp l↔x∈l∨x∈r
 | [],l,hl=>⟨hl,fun x=>by simp⟩
 | n::r,l,hl=>by
  obtain ⟨h1,h2⟩:=sK r (jp l n) (DY hl)
  refine ⟨h1,fun x=>?_⟩
  rw [List.foldl_cons,h2,Di,List.mem_cons,or_assoc]
theorem uh (l:List Opt):(tJ l).foldl jp []=az l:=by
 obtain ⟨h1,h2⟩:=sK (tJ l) [] List.Pairwise.nil
 exact AK h1 (pJ l) fun x=>by rw [h2,uv]; simp
def vL (b i:Nat):Bool:=decide (b / 2 ^ i % 2=1)
def eq (f:List Int) (b i:Nat):List Int:=(List.range i).filterMap fun j=>if vL b j then f[j]? else none
def fk (f:List Int) (b:Nat):List Int:=eq f b f.length
theorem lX {f:List Int} {b i:Nat} (h:i<f.length):eq f b (i+1)=eq f b i++(if vL b i then [f.getD i 0] else []):=by
 unfold eq
 rw [List.range_succ,List.filterMap_append]
 congr 1
 simp only [List.filterMap_cons,List.filterMap_nil]
 split
 ·rename_i h1
  split at h1
  ·simp [List.getElem?_eq_getElem h] at h1
  ·rename_i h2; rw [if_neg (by simpa using h2)]
 ·rename_i h1
  split at h1
  ·rename_i h2
   rw [if_pos (by simpa using h2),List.getD_eq_getElem?_getD,h1]; rfl
  ·cases h1
theorem jm (f:List Int) (b i:Nat):(eq f b i).length≤i:=by
 unfold eq
 exact Nat.le_trans (List.length_filterMap_le _ _) (by simp)
def ax (l:List Int) (i:Nat):Int:=l.getD i 0
def kJ (n:Nat) (l:List Int) (i:Nat):Bool:=decide (0≤ax l i)&&decide (ax l i<n)&&(decide (i=0)||decide (ax l (i - 1)<ax l i))
def gG (ps:List am) (l:List Int):Bool:=(List.range l.length).all (kJ ps.length l)&&bz ps
def aZ (ps:List am) (p:Int):Int:=(aB ps p.toNat).ca.tdiv 1440
def gN (l:List Int) (d:Int):Nat:=(l.filter fun x=>decide (x=d)).length
def As (ds:List Int):Nat:=ds.foldl (fun n d=>max n (gN ds d)) 0
def rZ (ps:List am) (l:List Int):Nat:=As (l.map (aZ ps))
def jc (k:Int):Bool:=decide (0≤k)&&decide (k≤3)
def ey (ps:List am) (l:List Int) (k:Int):Bool:=jc k&&gG ps l&&decide ((rZ ps l:Int)≤k)
def dC (f:List Int) (ps:List am) (k:Int) (n:Nat):List (List Int):=((List.range n).map (fk f)).filter fun l=>ey ps l k
def bj (f:List Int) (ps:List am) (k:Int):List (List Int):=dC f ps k (2 ^ f.length)
theorem ky (f:List Int) (ps:List am) (k:Int) (n:Nat):dC f ps k (n+1)=dC f ps k n++(if ey ps (fk f n) k then [fk f n] else []):=by
 unfold dC
 rw [List.range_succ,List.map_append,List.filter_append]
 congr 1
 simp only [List.map_cons,List.map_nil,List.filter_cons,List.filter_nil]
def iR (ds:List Int):Nat→Nat
 | 0=>0
 | i+1=>max (iR ds i) (gN (ds.take (i+1)) (ds.getD i 0))
theorem nu (ds:List Int) (i:Nat) (d:Int):gN (ds.take i) d≤gN ds d:=by
 unfold gN
 exact (((List.take_sublist i ds).filter _).length_le)
theorem jY {α:Type} (f:α→Nat):∀ (l:List α) (n b:Nat),n≤b→(∀ x∈l,f x≤b)→l.foldl (fun n d=>max n (f d)) n≤b
 | [],n,b,h,_=>h
 | x::l,n,b,h,hx=>jY f l _ b (Nat.max_le.2 ⟨h,hx x List.mem_cons_self⟩) fun y hy=>hx y (List.mem_cons_of_mem _ hy)
theorem lL {α:Type} (f:α→Nat):∀ (l:List α) (n:Nat),n≤l.foldl (fun n d=>max n (f d)) n
 | [],n=>Nat.le_refl _
 | x::l,n=>Nat.le_trans (Nat.le_max_left _ _) (lL f l _)
theorem nc {α:Type} (f:α→Nat):∀ (l:List α) (n:Nat) (x:α),x∈l→f x≤l.foldl (fun n d=>max n (f d)) n
 | y::l,n,x,h=>by
  rcases List.mem_cons.1 h with h | h
  ·subst h; exact Nat.le_trans (Nat.le_max_right _ _) (lL f l _)
  ·exact nc f l _ x h
theorem r7 (ds:List Int):∀ i,i≤ds.length→iR ds i≤As ds
 | 0,_=>Nat.zero_le _
 | i+1,h=>by
  refine Nat.max_le.2 ⟨r7 ds i (by omega),Nat.le_trans (nu _ _ _) ?_⟩
  refine nc (gN ds) ds 0 _ ?_
  rw [List.getD_eq_getElem?_getD,List.getElem?_eq_getElem (show i<ds.length by omega)]
  exact List.getElem_mem _
theorem uH {ds:List Int} {d:Int}:∀ i,i≤ds.length→gN (ds.take i) d≤iR ds i
 | 0,_=>by simp [gN]
 | i+1,h=>by
  have hi:i<ds.length:=by omega
  have e:ds.take (i+1)=ds.take i++[ds.getD i 0]:=by
   rw [List.take_add_one,List.getD_eq_getElem?_getD,List.getElem?_eq_getElem hi]; rfl
  by_cases hd:ds.getD i 0=d
  ·show _≤max _ _
   rw [hd]; exact Nat.le_max_right _ _
  ·have:gN (ds.take (i+1)) d=gN (ds.take i) d:=by
    have e2:List.filter (fun x=>decide (x=d)) [ds.getD i 0]=[]:=by
     rw [List.filter_cons_of_neg (by simpa using hd)]; rfl
    rw [e]; unfold gN; rw [List.filter_append,e2,List.append_nil]
   rw [this]
   exact Nat.le_trans (uH i (by omega)) (Nat.le_max_left _ _)
theorem y6 (ds:List Int):iR ds ds.length=As ds:=by
 refine Nat.le_antisymm (r7 ds _ (Nat.le_refl _)) ?_
 refine jY _ _ _ _ (Nat.zero_le _) fun x _=>?_
 have:=uH (ds:=ds) (d:=x) ds.length (Nat.le_refl _)
 rwa [List.take_length] at this
end Go.Proofs
namespace Go.Proofs
open Go Go.Shelf
def tV:Go.Shelf.Ren:=⟨fun | 189=>114 | 125=>190 | 257=>189 | 128=>250 | 129=>251 | 294=>241 | 295=>242 | 296=>243 | 297=>244 | 298=>245 | 299=>246 | 216=>247 | 300=>248 | 301=>249 | 328=>291 | 329=>292 | 330=>293 | 331=>294 | 332=>295 | 215=>167 | 343=>312 | n=>n,fun | 28=>79 | 3=>3 | 46=>254 | 0=>0 | 51=>299 | 53=>301 | 4=>4 | 183=>293 | 182=>292 | 131=>118 | 5=>5 | 9=>9 | 218=>325 | 222=>329 | 228=>346 | 229=>347 | n=>n,fun | n=>n⟩
theorem u3:Lays.n189 Tryz.prog tV where
 mixed:=by kernel_rfl
 f125:=Tryz.func190.trans (congrArg some (by kernel_rfl))
 f128:=Tryz.func250.trans (congrArg some (by kernel_rfl))
 f129:=Tryz.func251.trans (congrArg some (by kernel_rfl))
 f189:=Tryz.func114.trans (congrArg some (by kernel_rfl))
 f215:=Tryz.func167.trans (congrArg some (by kernel_rfl))
 f216:=Tryz.func247.trans (congrArg some (by kernel_rfl))
 f257:=Tryz.func189.trans (congrArg some (by kernel_rfl))
 f294:=Tryz.func241.trans (congrArg some (by kernel_rfl))
 f295:=Tryz.func242.trans (congrArg some (by kernel_rfl))
 f296:=Tryz.func243.trans (congrArg some (by kernel_rfl))
 f297:=Tryz.func244.trans (congrArg some (by kernel_rfl))
 f298:=Tryz.func245.trans (congrArg some (by kernel_rfl))
 f299:=Tryz.func246.trans (congrArg some (by kernel_rfl))
 f300:=Tryz.func248.trans (congrArg some (by kernel_rfl))
 f301:=Tryz.func249.trans (congrArg some (by kernel_rfl))
 f328:=Tryz.func291.trans (congrArg some (by kernel_rfl))
 f329:=Tryz.func292.trans (congrArg some (by kernel_rfl))
 f330:=Tryz.func293.trans (congrArg some (by kernel_rfl))
 f331:=Tryz.func294.trans (congrArg some (by kernel_rfl))
 f332:=Tryz.func295.trans (congrArg some (by kernel_rfl))
 f343:=Tryz.func312.trans (congrArg some (by kernel_rfl))
 t0:=Tryz.underlying0
 a0:=Tryz.isAgg0
 z0:=Tryz.sizeOf0
 v0:=Tryz.zeroValue0
 t3:=Tryz.underlying3
 a3:=Tryz.isAgg3
 z3:=Tryz.sizeOf3
 v3:=Tryz.zeroValue3
 t4:=Tryz.underlying4
 a4:=Tryz.isAgg4
 z4:=Tryz.sizeOf4
 v4:=Tryz.zeroValue4
 t5:=Tryz.underlying5
 a5:=Tryz.isAgg5
 z5:=Tryz.sizeOf5
 v5:=Tryz.zeroValue5
 t9:=Tryz.underlying9
 a9:=Tryz.isAgg9
 z9:=Tryz.sizeOf9
 v9:=Tryz.zeroValue9
 t28:=Tryz.underlying79
 a28:=Tryz.isAgg79
 z28:=Tryz.sizeOf79
 v28:=Tryz.zeroValue79
 t46:=Tryz.underlying254
 a46:=Tryz.isAgg254
 z46:=Tryz.sizeOf254
 v46:=Tryz.zeroValue254
 t51:=Tryz.underlying299
 a51:=Tryz.isAgg299
 z51:=Tryz.sizeOf299
 v51:=Tryz.zeroValue299
 t53:=Tryz.underlying301
 a53:=Tryz.isAgg301
 z53:=Tryz.sizeOf301
 v53:=Tryz.zeroValue301
 t131:=Tryz.underlying118
 a131:=Tryz.isAgg118
 z131:=Tryz.sizeOf118
 v131:=Tryz.zeroValue118
 t182:=Tryz.underlying292
 a182:=Tryz.isAgg292
 z182:=Tryz.sizeOf292
 v182:=Tryz.zeroValue292
 t183:=Tryz.underlying293
 a183:=Tryz.isAgg293
 z183:=Tryz.sizeOf293
 v183:=Tryz.zeroValue293
 t218:=Tryz.underlying325
 a218:=Tryz.isAgg325
 z218:=Tryz.sizeOf325
 v218:=Tryz.zeroValue325
 t222:=Tryz.underlying329
 a222:=Tryz.isAgg329
 z222:=Tryz.sizeOf329
 v222:=Tryz.zeroValue329
 t228:=Tryz.underlying346
 a228:=Tryz.isAgg346
 z228:=Tryz.sizeOf346
 v228:=Tryz.zeroValue346
 t229:=Tryz.underlying347
 a229:=Tryz.isAgg347
 z229:=Tryz.sizeOf347
 v229:=Tryz.zeroValue347
end Go.Proofs
namespace Go.Proofs
open Go Go.Shelf
def tY:Go.Shelf.Ren:=⟨fun | 20=>115 | n=>n,fun | 22=>79 | 3=>3 | 4=>4 | 0=>0 | n=>n,fun | n=>n⟩
theorem u5:Lays2.n20 Tryz.prog tY where
 mixed:=by kernel_rfl
 f20:=Tryz.func115.trans (congrArg some (by kernel_rfl))
 t0:=Tryz.underlying0
 a0:=Tryz.isAgg0
 z0:=Tryz.sizeOf0
 v0:=Tryz.zeroValue0
 t3:=Tryz.underlying3
 a3:=Tryz.isAgg3
 z3:=Tryz.sizeOf3
 v3:=Tryz.zeroValue3
 t4:=Tryz.underlying4
 a4:=Tryz.isAgg4
 z4:=Tryz.sizeOf4
 v4:=Tryz.zeroValue4
 t22:=Tryz.underlying79
 a22:=Tryz.isAgg79
 z22:=Tryz.sizeOf79
 v22:=Tryz.zeroValue79
 i3:=by kernel_rfl
end Go.Proofs
namespace Go.Proofs
open Go Go.AI
set_option maxRecDepth 10000
theorem el {l:List Int} {i:Nat} (h:i<l.length):(l.map fun h=>[AV.int .i64 h])[(i:Int).toNat]?=some [.int .i64 (ax l i)]:=by simp [ax,List.getElem?_eq_getElem h]
theorem nG (p:Nat→Bool) (n:Nat):(List.range (n+1)).all p=((List.range n).all p&&p n):=by rw [List.range_succ,List.all_append]; simp
theorem wz {ps:List am} {l:List Int} {i:Nat} (hi:i<l.length) (h:kJ ps.length l i=false):gG ps l=false:=by
 unfold gG
 rw [Bool.and_eq_false_iff]
 refine .inl ?_
 rw [List.all_eq_false]
 exact ⟨i,List.mem_range.2 hi,by rw [h]; simp⟩
theorem wd (k:Int):ae Tryz.prog 252 [.int .i64 k] (.bool (jc k)):=by
 refine ag aa Tryz.func252 rfl (by kernel_rfl) af (Nat.le_of_ble_eq_true rfl) ?_
 intro F n' w0 m0 hG hro h1
 repeat' first|refine Q1 ?_|refine Q2 ?_|refine Q3 hG aa n9 ?_|refine Q4 hG aa n9 ?_|refine Q5 hG aa ?_|refine Q6 hG aa ?_|refine Q7 hG aa ?_|refine Q8 hG aa ?_|refine Q9 rfl ?_|refine QF rfl ?_|refine QC rfl ⟨fun h=>?_,fun h=>?_⟩|((conv=>whnf); first|refine anF ?_|refine anT ?_|refine anK ?_|refine And.intro (fun h=>?_) (fun h=>?_)|refine Or.inl ?_)
 all_goals refine Ends.mk (Or.inl rfl) (ac (congrArg AV.bool ?_))
 all_goals (clear hG; grind [jc])
set_option maxHeartbeats 4000000 in
theorem tw (ps:List am) (l:List Int) (hl:l.length≤1000000) (hps:ps.length≤1000000):ae Tryz.prog 253 [al ps,aw l] (.bool (gG ps l)):=by
 have hpl:((ps.map aL).length:Int)=(ps.length:Int):=by rw [List.length_map]
 refine ag aa Tryz.func253 rfl (by kernel_rfl) af (Nat.le_of_ble_eq_true rfl) ?_
 intro F n' w0 m0 hG hro h1
 repeat' first|refine Q1 ?_|refine Q2 ?_|refine Q3 hG aa eK ?_|refine Q4 hG aa eK ?_|refine Q5 hG aa ?_|refine Q6 hG aa ?_|refine Q7 hG aa ?_|refine Q8 hG aa ?_|refine Q9 rfl ?_|refine QF rfl ?_|refine QC rfl ⟨fun h=>?_,fun h=>?_⟩|((conv=>whnf); first|refine anF ?_|refine anT ?_|refine anK ?_|refine And.intro (fun h=>?_) (fun h=>?_)|refine Or.inl ?_)
 refine ap (X:=Nat) (fun x=>⟨[(9,.int .i64 x),(8,.int .i64 (l.map fun h=>[AV.int .i64 h]).length),(7,aw l),(1,aw l),(0,al ps)],[]⟩) (fun x=>x≤l.length∧(List.range x).all (kJ ps.length l)=true) (fun x=>l.length - x) 0 ⟨Nat.zero_le _,rfl⟩ (ah ?_ ?_) (fun x hx=>?_)
 ·repeat' (first | exact trivial | refine And.intro rfl ?_)
 ·repeat' (first | exact trivial | refine And.intro rfl ?_)
 ·rename Nat=>i
  obtain ⟨hi,ht⟩:=hx
  by_cases hlt_i:i<l.length
  ·have bbk:decide ((i:Int)<((l.map fun h=>[AV.int .i64 h]).length:Int))=false→False:=fun h=>by have:=of_decide_eq_false h; simp at this; omega
   have hx:=el hlt_i
   have hw:(i:Int)>0→IntKind.i64.wrap ((i:Int) - 1)=((i - 1:Nat):Int):=fun h=>(ai (by omega) (by omega)).trans (by omega)
   have hp0:decide ((i:Int)>0)=true→0≤IntKind.i64.wrap ((i:Int) - 1):=fun h=>by rw [hw (of_decide_eq_true h)]; omega
   have hp:decide ((i:Int)>0)=true→(l.map fun h=>[AV.int .i64 h])[(IntKind.i64.wrap ((i:Int) - 1)).toNat]?=some [.int .i64 (ax l (i - 1))]:=fun h=>by rw [hw (of_decide_eq_true h)]; exact el (by omega)
   have hok:kJ ps.length l i=(decide (0≤ax l i)&&decide (ax l i<ps.length)&&(decide (i=0)||decide (ax l (i - 1)<ax l i))):=rfl
   generalize ax l (i - 1)=v at hp hok
   generalize ax l i=u at hx hok
   repeat' first|exact (bbk (by assumption)).elim|refine Q1 ?_|refine Q2 ?_|refine Q3 hG aa eK ?_|refine Q4 hG aa eK ?_|refine Q5 hG aa ?_|refine Q6 hG aa ?_|refine Q7 hG aa ?_|refine Q8 hG aa ?_|refine Q9 rfl ?_|refine QF rfl ?_|refine QC rfl ⟨fun h=>?_,fun h=>?_⟩|((conv=>whnf); first|refine anF ?_|refine anT ?_|refine anK ?_|refine And.intro (Int.natCast_nonneg i) (Exists.intro _ (And.intro hx ?_))|refine And.intro (hp0 (by assumption)) (Exists.intro _ (And.intro (hp (by assumption)) ?_))|refine And.intro (fun h=>?_) (fun h=>?_)|refine Or.inl ?_)
   all_goals first
    |(refine Ends.mk (Or.inl rfl) (ac (congrArg AV.bool ?_))
      exact (wz hlt_i (by rw [hok]; clear hG; grind)).symm)
    | skip
   all_goals (refine Exists.intro (i+1) (And.intro ?_ (And.intro (by omega) (ah ?_ ?_))))
   all_goals first
    |(refine And.intro (congrArg some (ao (by omega))) ?_
      repeat' (first | exact trivial | refine And.intro rfl ?_))
    |((repeat' (first | exact trivial | refine And.intro rfl ?_)); done)
    |(exact ⟨hlt_i,by rw [nG,ht,hok]; clear hG; grind⟩)
  ·have bbk:decide ((i:Int)<((l.map fun h=>[AV.int .i64 h]).length:Int))=true→False:=fun h=>by have:=of_decide_eq_true h; simp at this; omega
   have he:i=l.length:=by omega
   rw [he] at ht
   repeat' first|exact (bbk (by assumption)).elim|refine Q1 ?_|refine Q2 ?_|refine Q3 hG aa eK ?_|refine Q4 hG aa eK ?_|refine Q5 hG aa ?_|refine Q6 hG aa ?_|refine Q7 hG aa ?_|refine Q8 hG aa ?_|refine Q9 rfl ?_|refine QF rfl ?_|refine QC rfl ⟨fun h=>?_,fun h=>?_⟩|((conv=>whnf); first|refine anF ?_|refine anT ?_|refine anK ?_|refine Exists.intro _ (And.intro (fi ps hps) ?_)|refine And.intro (fun h=>?_) (fun h=>?_)|refine Or.inl ?_)
   exact Ends.mk (Or.inl rfl) (ac (congrArg AV.bool (by rw [gG,ht,Bool.true_and])))
theorem rU {ps:List am} (h:bz ps=true) {i:Nat} (hi:i<ps.length):0≤(aB ps i).ca∧(aB ps i).ca≤1000001:=by
 have h2:co (aB ps i)=true:=by
  simp only [bz,Bool.and_eq_true,Bool.not_eq_true',List.any_eq_false] at h
  have:=h.1.2 (aB ps i) (by unfold aB; rw [List.getD_eq_getElem?_getD,List.getElem?_eq_getElem hi]; exact List.getElem_mem hi)
  simpa using this
 simp only [co,Bool.and_eq_true,decide_eq_true_eq] at h2
 omega
def j5 (ds:List Int) (i:Nat):List (Int×Int):=(ds.take i).foldl (fun t d=>lz d (iM t d+1) t) []
theorem lj (x y z:Int):∀ l:List (Int×Int),iM (lz x y l) z=if x=z then y else iM l z
 | []=>by simp [lz,iM]
 | p::r=>by
  by_cases h:p.1=x
  ·simp only [lz,if_pos h,iM]
   by_cases h2:x=z
   ·rw [if_pos h2,if_pos h2]
   ·rw [if_neg h2,if_neg h2,if_neg (by rw [h]; exact h2)]
  ·simp only [lz,if_neg h,iM,lj x y z r]
   by_cases h2:x=z
   ·subst h2; simp [h]
   ·simp [h2]
theorem fj {ds:List Int} {i:Nat} (h:i<ds.length):ds.take (i+1)=ds.take i++[ds.getD i 0]:=by
 rw [List.take_add_one,List.getD_eq_getElem?_getD,List.getElem?_eq_getElem h]; rfl
theorem qv {ds:List Int} {i:Nat} (h:i<ds.length):j5 ds (i+1)=lz (ds.getD i 0) (iM (j5 ds i) (ds.getD i 0)+1) (j5 ds i):=by
 unfold j5; rw [fj h,List.foldl_append]; rfl
theorem j4 (ds:List Int) (z:Int):∀ i,i≤ds.length→iM (j5 ds i) z=(gN (ds.take i) z:Int)
 | 0,_=>by simp [j5,gN,iM]
 | i+1,h=>by
  rw [qv h,lj,j4 ds z i (by omega),j4 ds _ i (by omega),fj h]
  unfold gN
  rw [List.filter_append,List.length_append]
  by_cases hz:ds.getD i 0=z
  ·have e2:List.filter (fun x=>decide (x=z)) [ds.getD i 0]=[ds.getD i 0]:=by rw [List.filter_cons_of_pos (by simpa using hz)]; rfl
   rw [if_pos hz,hz] at *; rw [e2]; simp
  ·have e2:List.filter (fun x=>decide (x=z)) [ds.getD i 0]=[]:=by rw [List.filter_cons_of_neg (by simpa using hz)]; rfl
   rw [if_neg hz,e2]; simp
theorem ns (l:List Int) (d:Int):gN l d≤l.length:=List.length_filter_le _ _
theorem mF:∀ t,t=312→wi Tryz.prog t:=by
 rintro _ rfl
 exact ⟨_,_,rfl,rfl,fun w=>rfl⟩
theorem rn {ps:List am} {l:List Int} (h:gG ps l=true) {i:Nat} (hi:i<l.length):0≤ax l i∧ax l i<ps.length:=by
 have h:=(Bool.and_eq_true_iff.1 h).1
 rw [List.all_eq_true] at h
 have:=h i (List.mem_range.2 hi)
 simp only [kJ,Bool.and_eq_true,decide_eq_true_eq] at this
 exact this.1
set_option maxHeartbeats 4000000 in
theorem B3 (ps:List am) (l:List Int) (hl:l.length≤1000000) (hset:gG ps l=true):ae Tryz.prog 254 [al ps,aw l] (.int .i64 (rZ ps l)):=by
 have hps2:bz ps=true:=by simp only [gG,Bool.and_eq_true] at hset; exact hset.2
 refine ag aa Tryz.func254 rfl (by kernel_rfl) af (Nat.le_of_ble_eq_true rfl) ?_
 intro F n' w0 m0 hG hro h1
 repeat' first|refine Q1 ?_|refine Q2 ?_|refine Q3 hG aa eJ ?_|refine Q4 hG aa eJ ?_|refine Q5 hG aa ?_|refine Q6 hG aa ?_|refine Q7 hG aa ?_|refine Q8 hG aa ?_|refine Q9 rfl ?_|refine QF rfl ?_|refine QC rfl ⟨fun h=>?_,fun h=>?_⟩|((conv=>whnf); first|refine anF ?_|refine anT ?_|refine anK ?_|refine fun b=>?_|refine And.intro (fun h=>?_) (fun h=>?_)|refine Or.inl ?_)
 refine ap (X:=Nat) (fun x=>⟨[(12,.int .i64 x),(4,.int .i64 (iR (l.map (aZ ps)) x)),(xk 9,.me .ents 9 b (ip (j5 (l.map (aZ ps)) x))),(11,.int .i64 (l.map fun h=>[AV.int .i64 h]).length),(10,aw l),(5,.lit (.map (some b))),(1,aw l),(0,al ps)],[]⟩) (fun x=>x≤l.length) (fun x=>l.length - x) 0 (Nat.zero_le _) (ah ?_ ?_) (fun x hx=>?_)
 ·repeat' (first | exact trivial | refine And.intro rfl ?_)
 ·repeat' (first | exact trivial | refine And.intro rfl ?_)
 ·rename Nat=>i
  have hi:=hx
  by_cases hlt_i:i<l.length
  ·have bbk:decide ((i:Int)<((l.map fun h=>[AV.int .i64 h]).length:Int))=false→False:=fun h=>by have:=of_decide_eq_false h; simp at this; omega
   have hx:=el hlt_i
   obtain ⟨h0,h1⟩:=rn hset hlt_i
   have hy:=dD (l:=ps) (i:=(ax l i).toNat) (by omega)
   have hday:aZ ps (ax l i)=(aB ps (ax l i).toNat).ca.tdiv 1440:=rfl
   have hdi:(l.map (aZ ps)).getD i 0=aZ ps (ax l i):=by simp [ax,List.getElem?_eq_getElem hlt_i]
   have hdl:i<(l.map (aZ ps)).length:=by simpa using hlt_i
   have hs:=qv hdl
   have hg:=j4 (l.map (aZ ps)) (aZ ps (ax l i)) i (by omega)
   have hg2:=j4 (l.map (aZ ps)) (aZ ps (ax l i)) (i+1) (by omega)
   have hm:iR (l.map (aZ ps)) (i+1)=max (iR (l.map (aZ ps)) i) (gN ((l.map (aZ ps)).take (i+1)) ((l.map (aZ ps)).getD i 0)):=rfl
   have hcl:=ns ((l.map (aZ ps)).take i) (aZ ps (ax l i))
   rw [List.length_take] at hcl
   rw [hdi] at hs hm
   have hwd:IntKind.i64.wrap ((aB ps (ax l i).toNat).ca.tdiv 1440)=aZ ps (ax l i):=by
    rw [hday]; have h3:=rU hps2 (i:=(ax l i).toNat) (by omega)
    rw [Int.tdiv_eq_ediv_of_nonneg h3.1]
    exact ai (by omega) (by omega)
   have hw1:IntKind.i64.wrap (iM (j5 (l.map (aZ ps)) i) (aZ ps (ax l i))+1)=iM (j5 (l.map (aZ ps)) i) (aZ ps (ax l i))+1:=ai (by omega) (by omega)
   generalize aB ps (ax l i).toNat=p at hy hwd
   generalize ax l i=u at *
   repeat' first|exact (bbk (by assumption)).elim|refine Q1 ?_|refine Q2 ?_|refine Q3 hG aa eJ ?_|refine SPB.regM hG aa (M:=fun t=>t=312) mF eJ (by kernel_rfl) ?_|refine Q5 hG aa ?_|refine Q6 hG aa ?_|refine Q7 hG aa ?_|refine Q8 hG aa ?_|refine Q9 rfl ?_|refine QF rfl ?_|refine QC rfl ⟨fun h=>?_,fun h=>?_⟩|((conv=>whnf); first|refine anF ?_|refine anT ?_|refine anK ?_|refine And.intro (Int.natCast_nonneg i) (Exists.intro _ (And.intro hx ?_))|refine And.intro h0 (Exists.intro _ (And.intro hy ?_))|refine And.intro (of_decide_eq_true (Eq.refl true)) ?_|refine Exists.intro 9 (Exists.intro _ (And.intro rfl ?_))|refine And.intro (fun h=>?_) (fun h=>?_)|refine Or.inl ?_)
   conv=>whnf
   rw [hs,lj,if_pos rfl] at hg2
   refine Exists.intro (i+1) (And.intro hlt_i (And.intro (by omega) (ah ?_ ?_)))
   ·refine And.intro (congrArg some (ao (by omega))) (And.intro (congrArg (fun z=>some (AV.int .i64 z)) ?_) (And.intro (congrArg (fun z=>some (AV.me .ents 9 b (ip z))) ?_) ?_))
    ·rw [hwd,hw1,lj,if_pos rfl,hm,hg2]
     show max _ _=_
     omega
    ·rw [hwd,hw1]; exact hs.symm
    ·repeat' (first | exact trivial | refine And.intro rfl ?_)
   ·repeat' (first | exact trivial | refine And.intro rfl ?_)
  ·have bbk:decide ((i:Int)<((l.map fun h=>[AV.int .i64 h]).length:Int))=true→False:=fun h=>by have:=of_decide_eq_true h; simp at this; omega
   have he:i=(l.map (aZ ps)).length:=by rw [List.length_map]; omega
   have hr:iR (l.map (aZ ps)) i=rZ ps l:=by rw [he]; exact y6 _
   rw [hr]
   repeat' first|exact (bbk (by assumption)).elim|refine Q1 ?_|refine Q2 ?_|refine Q3 hG aa eJ ?_|refine Q4 hG aa eJ ?_|refine Q5 hG aa ?_|refine Q6 hG aa ?_|refine Q7 hG aa ?_|refine Q8 hG aa ?_|refine Q9 rfl ?_|refine QF rfl ?_|refine QC rfl ⟨fun h=>?_,fun h=>?_⟩|((conv=>whnf); first|refine anF ?_|refine anT ?_|refine anK ?_|refine And.intro (fun h=>?_) (fun h=>?_)|refine Or.inl ?_)
   exact Ends.mk (Or.inl rfl) (ac rfl)
end Go.Proofs
namespace Go.Proofs
open Go Go.AI
set_option maxRecDepth 10000
def inP (l:List Int) (x:Int):Bool:=l.any fun y=>x==y
theorem qZ (l:List Int) (x:Int) (hl:l.length≤1000000):ae Tryz.prog 196 [aw l,.int .i64 x] (.int .i64 (bK (fun y=>x==y) l 0)):=by
 refine ag aa Tryz.func196 rfl (by kernel_rfl) af (Nat.le_of_ble_eq_true rfl) ?_
 intro F n' w0 m0 hG hro h1
 repeat' first|refine Q1 ?_|refine Q2 ?_|refine Q3 hG aa eP ?_|refine Q4 hG aa eP ?_|refine Q5 hG aa ?_|refine Q6 hG aa ?_|refine Q7 hG aa ?_|refine Q8 hG aa ?_|refine Q9 rfl ?_|refine QF rfl ?_|refine QC rfl ⟨fun h=>?_,fun h=>?_⟩|((conv=>whnf); first|refine anF ?_|refine anT ?_|refine anK ?_|refine And.intro (fun h=>?_) (fun h=>?_)|refine Or.inl ?_)
 refine ap (X:=Nat) (fun i=>⟨[(8,.int .i64 i),(7,.int .i64 (l.map fun h=>[AV.int .i64 h]).length),(1,.int .i64 x),(0,aw l)],[]⟩) (fun i=>i≤l.length∧bK (fun y=>x==y) (l.drop i) i=bK (fun y=>x==y) l 0) (fun j=>l.length - j) 0 ⟨Nat.zero_le _,by simp⟩ (ah ?_ ?_) (fun i hx=>?_)
 ·repeat' (first | exact trivial | refine And.intro rfl ?_)
 ·repeat' (first | exact trivial | refine And.intro rfl ?_)
 ·obtain ⟨hi,ht⟩:=hx
  by_cases hlt_i:i<l.length
  ·have bbk:decide ((i:Int)<((l.map fun h=>[AV.int .i64 h]).length:Int))=false→False:=fun h=>by have:=of_decide_eq_false h; simp at this; omega
   have hx:=el hlt_i
   have hst:=aT (p:=fun y=>x==y) (d:=0) (j:=i) hlt_i
   have hst:bK (fun y=>x==y) (l.drop i) i=if (x==ax l i)=true then (i:Int) else bK (fun y=>x==y) (l.drop (i+1)) (i+1):=hst
   generalize ax l i=u at hx hst
   repeat' first|exact (bbk (by assumption)).elim|refine Q1 ?_|refine Q2 ?_|refine Q3 hG aa eP ?_|refine Q4 hG aa eP ?_|refine Q5 hG aa ?_|refine Q6 hG aa ?_|refine Q7 hG aa ?_|refine Q8 hG aa ?_|refine Q9 rfl ?_|refine QF rfl ?_|refine QC rfl ⟨fun h=>?_,fun h=>?_⟩|((conv=>whnf); first|refine anF ?_|refine anT ?_|refine anK ?_|refine And.intro (Int.natCast_nonneg i) (Exists.intro _ (And.intro hx ?_))|refine And.intro (fun h=>?_) (fun h=>?_)|refine Or.inl ?_)
   all_goals first
    |(refine Ends.mk (Or.inl rfl) (ac (congrArg (AV.int .i64) ?_))
      rw [← ht,hst,if_pos (by assumption)])
    | skip
   all_goals (refine Exists.intro (i+1) (And.intro ?_ (And.intro (by omega) (ah ?_ ?_))))
   all_goals first
    |(refine And.intro (congrArg some (ao (by omega))) ?_
      repeat' (first | exact trivial | refine And.intro rfl ?_))
    |((repeat' (first | exact trivial | refine And.intro rfl ?_)); done)
    |(exact ⟨hlt_i,by rw [← ht,hst,if_neg (fun h=>tf h (by assumption))]⟩)
  ·have bbk:decide ((i:Int)<((l.map fun h=>[AV.int .i64 h]).length:Int))=true→False:=fun h=>by have:=of_decide_eq_true h; simp at this; omega
   have he:i=l.length:=by omega
   rw [he,List.drop_length] at ht
   repeat' first|exact (bbk (by assumption)).elim|refine Q1 ?_|refine Q2 ?_|refine Q3 hG aa eP ?_|refine Q4 hG aa eP ?_|refine Q5 hG aa ?_|refine Q6 hG aa ?_|refine Q7 hG aa ?_|refine Q8 hG aa ?_|refine Q9 rfl ?_|refine QF rfl ?_|refine QC rfl ⟨fun h=>?_,fun h=>?_⟩|((conv=>whnf); first|refine anF ?_|refine anT ?_|refine anK ?_|refine And.intro (fun h=>?_) (fun h=>?_)|refine Or.inl ?_)
   exact Ends.mk (Or.inl rfl) (ac (congrArg (AV.int .i64) ht))
theorem kY (l:List Int) (x:Int) (hl:l.length≤1000000):ae Tryz.prog 121 [aw l,.int .i64 x] (.bool (inP l x)):=by
 refine ag aa Tryz.func121 rfl (by kernel_rfl) af (Nat.le_of_ble_eq_true rfl) ?_
 intro F n' w0 m0 hG hro h1
 repeat' first|refine Q1 ?_|refine Q2 ?_|refine Q3 hG aa o5 ?_|refine Q4 hG aa o5 ?_|refine Q5 hG aa ?_|refine Q6 hG aa ?_|refine Q7 hG aa ?_|refine Q8 hG aa ?_|refine Q9 rfl ?_|refine QF rfl ?_|refine QC rfl ⟨fun h=>?_,fun h=>?_⟩|((conv=>whnf); first|refine anF ?_|refine anT ?_|refine anK ?_|refine Exists.intro _ (And.intro (qZ l x hl) ?_)|refine And.intro (fun h=>?_) (fun h=>?_)|refine Or.inl ?_)
 all_goals exact Ends.mk (Or.inl rfl) (ac (congrArg AV.bool (ea _ l 0)))
theorem ym (l:List Int) (hl:l.length≤1000000):ae Tryz.prog 197 [aw l] (aw l):=by
 rcases l with _ | ⟨x,l⟩
 ·refine ag aa Tryz.func197 rfl (by kernel_rfl) af (Nat.le_of_ble_eq_true rfl) ?_
  intro F n' w0 m0 hG hro h1
  repeat' first|refine Q1 ?_|refine Q2 ?_|refine Q3 hG aa gW ?_|refine SPB.regM hG aa (M:=fun t=>t=312) mF gW (by kernel_rfl) ?_|refine Q5 hG aa ?_|refine Q6 hG aa ?_|refine Q7 hG aa ?_|refine Q8 hG aa ?_|refine Q9 rfl ?_|refine QF rfl ?_|refine QC rfl ⟨fun h=>?_,fun h=>?_⟩|((conv=>whnf); first|refine anF ?_|refine anT ?_|refine anK ?_|refine And.intro (Nat.le_of_ble_eq_true rfl) (And.intro (Nat.le_of_ble_eq_true rfl) ?_)|refine And.intro (fun _=>?_) ?_|refine And.intro (fun h=>?_) (fun h=>?_)|refine Or.inl ?_)
  all_goals (first | exact Ends.mk (Or.inl rfl) (ac rfl) | (dsimp only; exact Ends.mk (Or.inl rfl) (ac rfl)) | (show AI.Ends _ _ _ _ _; exact Ends.mk (Or.inl rfl) (ac rfl)))
 ·have hr1:(([]:List (List AV)).length+((x::l).map fun h=>[AV.int .i64 h]).length)*8≤70368744177664:=by simp at hl ⊢; omega
  have hr2:([]:List (List AV)).length+((x::l).map fun h=>[AV.int .i64 h]).length≤4611686018427387904:=by simp at hl ⊢; omega
  refine ag aa Tryz.func197 rfl (by kernel_rfl) af (Nat.le_of_ble_eq_true rfl) ?_
  intro F n' w0 m0 hG hro h1
  repeat' first|refine Q1 ?_|refine Q2 ?_|refine Q3 hG aa gW ?_|refine SPB.regM hG aa (M:=fun t=>t=312) mF gW (by kernel_rfl) ?_|refine Q5 hG aa ?_|refine Q6 hG aa ?_|refine Q7 hG aa ?_|refine Q8 hG aa ?_|refine Q9 rfl ?_|refine QF rfl ?_|refine QC rfl ⟨fun h=>?_,fun h=>?_⟩|((conv=>whnf); first|refine anF ?_|refine anT ?_|refine anK ?_|refine And.intro (fun h=>absurd h (by simp)) ?_|refine And.intro hr1 (And.intro hr2 ?_)|refine And.intro (fun h=>?_) (fun h=>?_)|refine Or.inl ?_)
  all_goals (first | exact Ends.mk (Or.inl rfl) (ac rfl) | (dsimp only; exact Ends.mk (Or.inl rfl) (ac rfl)) | (show AI.Ends _ _ _ _ _; exact Ends.mk (Or.inl rfl) (ac rfl)))
theorem we (ps:List am) (l:List Int) (k:Int) (hl:l.length≤1000000) (hps:ps.length≤1000000):ae Tryz.prog 192 [al ps,aw l,.int .i64 k] (.bool (ey ps l k)):=by
 refine ag aa Tryz.func192 rfl (by kernel_rfl) af (Nat.le_of_ble_eq_true rfl) ?_
 intro F n' w0 m0 hG hro h1
 repeat' first|refine Q1 ?_|refine Q2 ?_|refine Q3 hG aa ov ?_|refine Q4 hG aa ov ?_|refine Q5 hG aa ?_|refine Q6 hG aa ?_|refine Q7 hG aa ?_|refine Q8 hG aa ?_|refine Q9 rfl ?_|refine QF rfl ?_|refine QC rfl ⟨fun h=>?_,fun h=>?_⟩|((conv=>whnf); first|refine anF ?_|refine anT ?_|refine anK ?_|refine Exists.intro _ (And.intro (wd k) ?_)|refine Exists.intro _ (And.intro (tw ps l hl hps) ?_)|refine Exists.intro _ (And.intro (B3 ps l hl (by assumption)) ?_)|refine And.intro (fun h=>?_) (fun h=>?_)|refine Or.inl ?_)
 all_goals refine Ends.mk (Or.inl rfl) (ac (congrArg AV.bool ?_))
 all_goals (clear hG; grind [ey])
def slL (ps:List am) (t:Int) (x:aV):Bool := !decide (x.p<0) && !decide (x.p≥(ps.length:Int)) && !decide (x.a<max t (aB ps x.p.toNat).sa) && !decide (x.a≥x.b) && !decide (x.b>(aB ps x.p.toNat).sb)
def rf (ps:List am):Int→List aV→Bool
 | _,[]=>true
 | t,x::r=>slL ps t x&&rf ps x.b r
def bB (o:Opt) (ps:List am):Bool := !decide ((o.sl.length:Int)<1) && !decide ((o.sl.length:Int)>6)&&bz ps&&rf ps 0 o.sl
theorem AZ {ps:List am} {t:Int} {l:List aV} {i:Nat} (h:i<l.length):rf ps t (l.drop i)=(slL ps t (l.getD i ⟨0,0,0⟩)&&rf ps (l.getD i ⟨0,0,0⟩).b (l.drop (i+1))):=by
 rw [List.drop_eq_getElem_cons h,List.getD_eq_getElem?_getD,List.getElem?_eq_getElem h]; rfl
set_option maxHeartbeats 4000000 in
theorem qC (o:Opt) (ps:List am) (hl:o.sl.length≤1000000) (hps:ps.length≤1000000):ae Tryz.prog 117 [.agg (aH o),al ps] (.bool (bB o ps)):=by
 have hlm:((o.sl.map ay).length:Int)=(o.sl.length:Int):=by rw [List.length_map]
 have hpm:((ps.map aL).length:Int)=(ps.length:Int):=by rw [List.length_map]
 refine ag aa Tryz.func117 rfl (by kernel_rfl) af (Nat.le_of_ble_eq_true rfl) ?_
 intro F n' w0 m0 hG hro h1
 repeat' first|refine Q1 ?_|refine Q2 ?_|refine Q3 hG aa eX ?_|refine Q4 hG aa eX ?_|refine Q5 hG aa ?_|refine Q6 hG aa ?_|refine Q7 hG aa ?_|refine Q8 hG aa ?_|refine Q9 rfl ?_|refine QF rfl ?_|refine QC rfl ⟨fun h=>?_,fun h=>?_⟩|((conv=>whnf); first|refine anF ?_|refine anT ?_|refine anK ?_|refine Exists.intro _ (And.intro (fi ps hps) ?_)|refine And.intro (fun h=>?_) (fun h=>?_)|refine Or.inl ?_)
 all_goals first
  |(refine Ends.mk (Or.inl rfl) (ac (congrArg AV.bool ?_))
    (rw [hlm] at *; clear hG; grind [bB]))
  | skip
 have hval:bB o ps=rf ps 0 o.sl:=by rw [hlm] at *; clear hG; grind [bB]
 rw [hval]
 refine ap (X:=Nat×Int) (fun x=>⟨[(27,.int .i64 x.1),(5,.int .i64 x.2),(26,.int .i64 (o.sl.map ay).length),(25,.sl .no 3 (o.sl.map ay)),(2,.loc 2 0),(1,al ps)],[(2,aH o)]⟩) (fun x=>x.1≤o.sl.length∧rf ps x.2 (o.sl.drop x.1)=rf ps 0 o.sl) (fun x=>o.sl.length - x.1) (0,0) ⟨Nat.zero_le _,rfl⟩ (ah ?_ ?_) (fun x hx=>?_)
 ·repeat' (first | exact trivial | refine And.intro rfl ?_)
 ·repeat' (first | exact trivial | refine And.intro rfl ?_)
 ·obtain ⟨i,e⟩:=x
  obtain ⟨hi,hf⟩:=hx
  simp only at hi hf ⊢
  by_cases hlt_i:i<o.sl.length
  ·have bbk:decide ((i:Int)<((o.sl.map ay).length:Int))=false→False:=fun h=>by have:=of_decide_eq_false h; simp at this; omega
   have hx:=dc hlt_i
   rw [AZ hlt_i] at hf
   generalize o.sl.getD i ⟨0,0,0⟩=x at hx hf
   have bad:slL ps e x=false→false=rf ps 0 o.sl:=fun h=>by rw [← hf,h,Bool.false_and]
   have hin:decide (x.p<0)=false→decide (x.p≥((ps.map aL).length:Int))=false→0≤x.p∧(ps.map aL)[x.p.toNat]?=some (aL (aB ps x.p.toNat)):=fun h1 h2=>by
    have h1:=of_decide_eq_false h1
    have h2:=of_decide_eq_false h2
    rw [hpm] at h2
    exact ⟨by omega,dD (by omega)⟩
   repeat' first|exact (bbk (by assumption)).elim|refine Q1 ?_|refine Q2 ?_|refine Q3 hG aa eX ?_|refine Q4 hG aa eX ?_|refine Q5 hG aa ?_|refine Q6 hG aa ?_|refine Q7 hG aa ?_|refine Q8 hG aa ?_|refine Q9 rfl ?_|refine QF rfl ?_|refine QC rfl ⟨fun h=>?_,fun h=>?_⟩|((conv=>whnf); first|refine anF ?_|refine anT ?_|refine anK ?_|refine And.intro (Int.natCast_nonneg i) (Exists.intro _ (And.intro hx ?_))|refine And.intro (hin (by assumption) (by assumption)).1 (Exists.intro _ (And.intro (hin (by assumption) (by assumption)).2 ?_))|refine And.intro (fun h=>?_) (fun h=>?_)|refine Or.inl ?_)
   all_goals first
    |(refine Ends.mk (Or.inl rfl) (ac (congrArg AV.bool ?_))
      exact bad (by rw [hpm] at *; clear hG; grind [slL]))
    | skip
   all_goals (refine Exists.intro (i+1,x.b) (And.intro ?_ (And.intro (by show o.sl.length - (i+1)<o.sl.length - i; omega) (ah ?_ ?_))))
   all_goals first
    |(refine And.intro (congrArg some (ao (by omega))) ?_
      repeat' (first | exact trivial | refine And.intro rfl ?_))
    |((repeat' (first | exact trivial | refine And.intro rfl ?_)); done)
    |(exact ⟨hlt_i,by rw [← hf,show slL ps e x=true by (rw [hpm] at *; clear hG; grind [slL]),Bool.true_and]⟩)
  ·have bbk:decide ((i:Int)<((o.sl.map ay).length:Int))=true→False:=fun h=>by have:=of_decide_eq_true h; simp at this; omega
   rw [List.drop_of_length_le (by omega)] at hf
   repeat' first|exact (bbk (by assumption)).elim|refine Q1 ?_|refine Q2 ?_|refine Q3 hG aa eX ?_|refine Q4 hG aa eX ?_|refine Q5 hG aa ?_|refine Q6 hG aa ?_|refine Q7 hG aa ?_|refine Q8 hG aa ?_|refine Q9 rfl ?_|refine QF rfl ?_|refine QC rfl ⟨fun h=>?_,fun h=>?_⟩|((conv=>whnf); first|refine anF ?_|refine anT ?_|refine anK ?_|refine And.intro (fun h=>?_) (fun h=>?_)|refine Or.inl ?_)
   exact Ends.mk (Or.inl rfl) (ac (congrArg AV.bool hf))
def gp (o:Opt) (lost:List Int):Int:=bK (fun x:aV => !inP lost x.p) o.sl 0
def ii (o:Opt) (ps:List am) (lost:List Int):Bool:=bB o ps&&gG ps lost
def rO (o:Opt) (ps:List am) (lost:List Int):AV := .tup (if ii o ps lost then [.int .i64 (gp o lost),.int .i64 0] else [.int .i64 0,.int .i64 180])
theorem x3 (x:aV) (lost:List Int) (hl:lost.length≤1000000):ae Tryz.prog 256 ((.agg (ay x))::[.ref [aw lost]]) (.bool (!inP lost x.p)):=by
 refine ag aa Tryz.func256 rfl (by kernel_rfl) af (Nat.le_of_ble_eq_true rfl) ?_
 intro F n' w0 m0 hG hro h1
 repeat' first|refine Q1 ?_|refine Q2 ?_|refine Q3 hG aa n8 ?_|refine Q4 hG aa n8 ?_|refine Q5 hG aa ?_|refine Q6 hG aa ?_|refine Q7 hG aa ?_|refine Q8 hG aa ?_|refine Q9 rfl ?_|refine QF rfl ?_|refine QC rfl ⟨fun h=>?_,fun h=>?_⟩|((conv=>whnf); first|refine anF ?_|refine anT ?_|refine anK ?_|refine Exists.intro _ (And.intro (kY lost _ hl) ?_)|refine And.intro (fun h=>?_) (fun h=>?_)|refine Or.inl ?_)
 all_goals exact Ends.mk (Or.inl rfl) (ac rfl)
theorem tx (l:List aV) (p:aV→Bool) (g:FuncId) (fv:AV) (cap:List AV) (hf:fv = .clo g cap∨(fv = .fn g∧cap=[])) (hl:l.length≤1000000)
  (hp:∀ x∈l,ae Tryz.prog g ((.agg (ay x))::cap) (.bool (p x))):ae Tryz.prog 255 [.sl .no 3 (l.map ay),fv] (.int .i64 (bK p l 0)):=by
 rcases hf with rfl | ⟨rfl,rfl⟩
 ·refine ag aa Tryz.func255 rfl (by kernel_rfl) af (Nat.le_of_ble_eq_true rfl) ?_
  intro F n' w0 m0 hG hro h1
  repeat' first|refine Q1 ?_|refine Q2 ?_|refine Q3 hG aa dp ?_|refine Q4 hG aa dp ?_|refine Q5 hG aa ?_|refine Q6 hG aa ?_|refine Q7 hG aa ?_|refine Q8 hG aa ?_|refine Q9 rfl ?_|refine QF rfl ?_|refine QC rfl ⟨fun h=>?_,fun h=>?_⟩|((conv=>whnf); first|refine anF ?_|refine anT ?_|refine anK ?_|refine And.intro (fun h=>?_) (fun h=>?_)|refine Or.inl ?_)
  refine ap (X:=Nat) (fun j=>⟨[(8,.int .i64 j),(7,.int .i64 (l.map ay).length),(0,.sl .no 3 (l.map ay)),(1,.clo g cap)],[]⟩) (fun j=>j≤l.length∧bK p (l.drop j) j=bK p l 0) (fun j=>l.length - j) 0
   ⟨Nat.zero_le _,by simp⟩ (ah ?_ trivial) (fun j hj=>?_)
  ·repeat' (first | exact trivial | refine And.intro rfl ?_)
  ·obtain ⟨hj,hi⟩:=hj
   have hj2:decide ((j:Int)<((l.map ay).length:Int))=true→j<l.length:=fun h=>by have:=of_decide_eq_true h; simp at this; omega
   have hx:decide ((j:Int)<((l.map ay).length:Int))=true→(l.map ay)[(j:Int).toNat]?=some (ay (l.getD j ⟨0,0,0⟩)):=fun h=>by have:=hj2 h; simp [List.getElem?_eq_getElem this]
   have hc:decide ((j:Int)<((l.map ay).length:Int))=true→ae Tryz.prog g ((.agg (ay (l.getD j ⟨0,0,0⟩)))::cap) (.bool (p (l.getD j ⟨0,0,0⟩))):=fun h=>hp _ (by have:=hj2 h; rw [List.getD_eq_getElem?_getD,List.getElem?_eq_getElem this]; exact List.getElem_mem this)
   repeat' first|refine Q1 ?_|refine Q2 ?_|refine Q3 hG aa dp ?_|refine Q4 hG aa dp ?_|refine Q5 hG aa ?_|refine Q6 hG aa ?_|refine Q7 hG aa ?_|refine Q8 hG aa ?_|refine Q9 rfl ?_|refine QF rfl ?_|refine QC rfl ⟨fun h=>?_,fun h=>?_⟩|((conv=>whnf); first|refine anF ?_|refine anT ?_|refine anK ?_|refine And.intro (Int.natCast_nonneg j) (Exists.intro _ (And.intro (hx (by assumption)) ?_))|refine Exists.intro _ (And.intro (hc (by assumption)) ?_)|refine And.intro (fun h=>?_) (fun h=>?_)|refine Or.inl ?_)
   ·rw [aT (d:=⟨0,0,0⟩) (hj2 (by assumption)),if_pos (by assumption)] at hi
    exact Ends.mk (Or.inl rfl) (ac (congrArg (AV.int .i64) hi))
   ·have hj2:=hj2 (by assumption)
    rw [aT (d:=⟨0,0,0⟩) hj2,if_neg (fun h=>tf h (by assumption))] at hi
    refine Exists.intro (j+1) (And.intro ⟨hj2,hi⟩ (And.intro (by omega) (ah ?_ trivial)))
    refine And.intro (congrArg (fun z=>some (AV.int .i64 z)) ((ai (by omega) (by omega)).trans (by omega))) ?_
    repeat' (first | exact trivial | refine And.intro rfl ?_)
   ·have hj2:l.length≤j:=by have:=of_decide_eq_false (by assumption:decide ((j:Int)<((l.map ay).length:Int))=false); simp at this; omega
    rw [List.drop_of_length_le hj2] at hi
    exact Ends.mk (Or.inl rfl) (ac (congrArg (AV.int .i64) hi))
 ·refine ag aa Tryz.func255 rfl (by kernel_rfl) af (Nat.le_of_ble_eq_true rfl) ?_
  intro F n' w0 m0 hG hro h1
  repeat' first|refine Q1 ?_|refine Q2 ?_|refine Q3 hG aa dp ?_|refine Q4 hG aa dp ?_|refine Q5 hG aa ?_|refine Q6 hG aa ?_|refine Q7 hG aa ?_|refine Q8 hG aa ?_|refine Q9 rfl ?_|refine QF rfl ?_|refine QC rfl ⟨fun h=>?_,fun h=>?_⟩|((conv=>whnf); first|refine anF ?_|refine anT ?_|refine anK ?_|refine And.intro (fun h=>?_) (fun h=>?_)|refine Or.inl ?_)
  refine ap (X:=Nat) (fun j=>⟨[(8,.int .i64 j),(7,.int .i64 (l.map ay).length),(0,.sl .no 3 (l.map ay)),(1,.fn g)],[]⟩) (fun j=>j≤l.length∧bK p (l.drop j) j=bK p l 0) (fun j=>l.length - j) 0
   ⟨Nat.zero_le _,by simp⟩ (ah ?_ trivial) (fun j hj=>?_)
  ·repeat' (first | exact trivial | refine And.intro rfl ?_)
  ·obtain ⟨hj,hi⟩:=hj
   have hj2:decide ((j:Int)<((l.map ay).length:Int))=true→j<l.length:=fun h=>by have:=of_decide_eq_true h; simp at this; omega
   have hx:decide ((j:Int)<((l.map ay).length:Int))=true→(l.map ay)[(j:Int).toNat]?=some (ay (l.getD j ⟨0,0,0⟩)):=fun h=>by have:=hj2 h; simp [List.getElem?_eq_getElem this]
   have hc:decide ((j:Int)<((l.map ay).length:Int))=true→ae Tryz.prog g ((.agg (ay (l.getD j ⟨0,0,0⟩)))::[]) (.bool (p (l.getD j ⟨0,0,0⟩))):=fun h=>hp _ (by have:=hj2 h; rw [List.getD_eq_getElem?_getD,List.getElem?_eq_getElem this]; exact List.getElem_mem this)
   repeat' first|refine Q1 ?_|refine Q2 ?_|refine Q3 hG aa dp ?_|refine Q4 hG aa dp ?_|refine Q5 hG aa ?_|refine Q6 hG aa ?_|refine Q7 hG aa ?_|refine Q8 hG aa ?_|refine Q9 rfl ?_|refine QF rfl ?_|refine QC rfl ⟨fun h=>?_,fun h=>?_⟩|((conv=>whnf); first|refine anF ?_|refine anT ?_|refine anK ?_|refine And.intro (Int.natCast_nonneg j) (Exists.intro _ (And.intro (hx (by assumption)) ?_))|refine Exists.intro _ (And.intro (hc (by assumption)) ?_)|refine And.intro (fun h=>?_) (fun h=>?_)|refine Or.inl ?_)
   ·rw [aT (d:=⟨0,0,0⟩) (hj2 (by assumption)),if_pos (by assumption)] at hi
    exact Ends.mk (Or.inl rfl) (ac (congrArg (AV.int .i64) hi))
   ·have hj2:=hj2 (by assumption)
    rw [aT (d:=⟨0,0,0⟩) hj2,if_neg (fun h=>tf h (by assumption))] at hi
    refine Exists.intro (j+1) (And.intro ⟨hj2,hi⟩ (And.intro (by omega) (ah ?_ trivial)))
    refine And.intro (congrArg (fun z=>some (AV.int .i64 z)) ((ai (by omega) (by omega)).trans (by omega))) ?_
    repeat' (first | exact trivial | refine And.intro rfl ?_)
   ·have hj2:l.length≤j:=by have:=of_decide_eq_false (by assumption:decide ((j:Int)<((l.map ay).length:Int))=false); simp at this; omega
    rw [List.drop_of_length_le hj2] at hi
    exact Ends.mk (Or.inl rfl) (ac (congrArg (AV.int .i64) hi))
theorem zG (o:Opt) (ps:List am) (lost:List Int) (ho:o.sl.length≤1000000) (hps:ps.length≤1000000) (hl:lost.length≤1000000):ae Tryz.prog 198 [.agg (aH o),al ps,aw lost] (rO o ps lost):=by
 refine ag aa Tryz.func198 rfl (by kernel_rfl) af (Nat.le_of_ble_eq_true rfl) ?_
 intro F n' w0 m0 hG hro h1
 repeat' first|refine Q1 ?_|refine Q2 ?_|refine Q3 hG aa ot ?_|refine Q4 hG aa ot ?_|refine Q5 hG aa ?_|refine Q6 hG aa ?_|refine Q7 hG aa ?_|refine Q8 hG aa ?_|refine Q9 rfl ?_|refine QF rfl ?_|refine QC rfl ⟨fun h=>?_,fun h=>?_⟩|((conv=>whnf); first|refine anF ?_|refine anT ?_|refine anK ?_|refine Exists.intro _ (And.intro (qC o ps ho hps) ?_)|refine Exists.intro _ (And.intro (tw ps lost hl hps) ?_)|refine Exists.intro _ (And.intro (tx o.sl _ _ _ _ (Or.inl rfl) ho (fun x _=>x3 x lost hl)) ?_)|refine And.intro (fun h=>?_) (fun h=>?_)|refine Or.inl ?_)
 all_goals refine Ends.mk (Or.inl rfl) (ac ?_)
 all_goals (clear hG; first
  |(have h:ii o ps lost=true:=by grind [ii]
    simp only [rO,h,if_true]; rfl)
  |(have h:ii o ps lost=false:=by grind [ii]
    simp only [rO,h]; rfl))
end Go.Proofs
namespace Go.Proofs
open Go Go.AI
set_option maxRecDepth 10000
theorem xj (l:List Int):bG (gK l)=l.map fun h=>[AV.int .i64 h]:=by simp [bG,gK]
theorem Dr (l:List Int):∀ x∈gK l,x.length=1:=fun x hx=>by
 obtain ⟨y,_,rfl⟩:=List.mem_map.1 hx; rfl
theorem xY (l:List Int) (hl:l.length≤1000000):pT Tryz.prog 114 l (sortI l):=pT.sortI u3 (enters_of Tryz.func114 (by kernel_rfl) rfl) l (by omega)
theorem tX (l:List Int) (hl:l.length≤1000000):d7 Tryz.prog 115 1 (gK l) [] (fun r _=>r = .sl .no 1 (bG (gK (Lib.compact l)))):=d7.compactI u5 (enters_of Tryz.func115 (by kernel_rfl) rfl) l (by omega)
theorem tQ (sz:Nat) {o:Go.AI.Own}:ae Tryz.prog 114 [.sl o sz []] (.tup []):=ae.sortNilI u3 (enters_of Tryz.func114 (by kernel_rfl) rfl) sz
theorem pX (sz sz2:Nat) {o:Go.AI.Own}:ae Tryz.prog 115 [.sl o sz []] (.sl .no sz2 []):=ae.compactNil u5 (enters_of Tryz.func115 (by kernel_rfl) rfl) sz sz2
def A3:List Int→List (Nat×AV)
 | []=>[(2,.sl .full 0 [])]
 | x::r=>[(2,.me .sl 33 (x::r).length []),(xk 33,.me .arr 33 1 ((x::r).map fun h=>[AV.int .i64 h]))]
theorem ed (o:List Int) (z:Int):A3 (o++[z])=[(2,.me .sl 33 (o.length+1) []),(xk 33,.me .arr 33 1 ((o++[z]).map fun h=>[AV.int .i64 h]))]:=by
 cases o with
 | nil=>rfl
 | cons x r=>simp [A3]
theorem rQ (o:List Int) (z x:Int):A3 (o++[z]++[x])=[(2,.me .sl 33 (o.length+1+1) []),(xk 33,.me .arr 33 1 ((o++[z]).map (fun h=>[AV.int .i64 h])++[[AV.int .i64 x]]))]:=by
 rw [ed,List.map_append,List.length_append]; rfl
def f8 (o:Opt):List Int:=(o.sl.take 6).map (·.p)
theorem uk (l:List Opt):(l.flatMap f8).length≤6*l.length:=by
 induction l with
 | nil=>simp
 | cons o r ih=>
  rw [List.flatMap_cons,List.length_append,List.length_cons]
  have:(f8 o).length≤6:=by unfold f8; rw [List.length_map,List.length_take]; omega
  omega
theorem G6 {α:Type} (l:List α) (n:Nat) (m:Int) (hm:m=min (l.length:Int) n):0≤m∧m.toNat≤l.length∧(l.take m.toNat).drop 0=l.take n:=by
 subst hm
 refine ⟨by omega,by omega,?_⟩
 rw [List.drop_zero]
 rcases Nat.le_total l.length n with h | h
 ·rw [List.take_of_length_le (by omega),List.take_of_length_le h]
 ·rw [show (min (l.length:Int) n).toNat=n by omega]
set_option maxHeartbeats 16000000 in
theorem iI (l:List Opt) (hl:l.length≤1000000) (hs:dQ l):ae Tryz.prog 47 [aK l] (aw (az l)):=by
 obtain ⟨h8a,h8b,h8c⟩:=G6 (l.map aH) 8 _ rfl
 have h8c:=h8c.trans List.map_take.symm
 refine ag aa Tryz.func47 rfl (by kernel_rfl) af (Nat.le_of_ble_eq_true rfl) ?_
 intro F n' w0 m0 hG hro h1
 refine Q1 ?_
 refine SPB.regN hG aa aJ [2] (by kernel_rfl) ?_
 conv=>whnf
 repeat' first|refine Q1 ?_|refine Q2 ?_|refine Q3 hG aa aJ ?_|refine Q4 hG aa aJ ?_|refine Q5 hG aa ?_|refine Q6 hG aa ?_|refine Q7 hG aa ?_|refine Q8 hG aa ?_|refine Q9 rfl ?_|refine QF rfl ?_|refine QC rfl ⟨fun h=>?_,fun h=>?_⟩|((conv=>whnf); first|refine anF ?_|refine anT ?_|refine anK ?_|refine And.intro h8a (And.intro (Nat.zero_le _) (And.intro h8b ?_))|refine And.intro (fun h=>?_) (fun h=>?_)|refine Or.inl ?_)
 refine ap (X:=Nat) (fun i=>⟨(13,.int .i64 i)::(12,.int .i64 ((l.take 8).map aH).length)::(11,aK (l.take 8))::A3 (((l.take 8).take i).flatMap f8),[]⟩) (fun i=>i≤(l.take 8).length) (fun i=>(l.take 8).length - i) 0 (Nat.zero_le _) (ah ?_ ?_) (fun i hi=>?_)
 ·refine And.intro rfl (And.intro (congrArg (fun z=>some (AV.int .i64 (z:List (List AV)).length)) h8c) (And.intro (congrArg (fun z=>some (AV.sl .no 9 z)) h8c) ?_))
  repeat' (first | exact trivial | refine And.intro rfl ?_)
 ·repeat' (first | exact trivial | refine And.intro rfl ?_)
 ·have h8:i≤8:=by rw [List.length_take] at hi; omega
  by_cases hlt_i:i<(l.take 8).length
  ·have bbk:decide ((i:Int)<(((l.take 8).map aH).length:Int))=false→False:=fun h=>by have:=of_decide_eq_false h; rw [List.length_map] at this; omega
   have hx:=gB hlt_i
   have hsn:((l.take 8).take (i+1)).flatMap f8=((l.take 8).take i).flatMap f8++f8 (aG (l.take 8) i):=by
    rw [List.take_add_one,List.getElem?_eq_getElem hlt_i,cK hlt_i]; simp
   have hlen:=uk ((l.take 8).take i)
   have hpu:f8 (aG (l.take 8) i)=((aG (l.take 8) i).sl.take 6).map (·.p):=rfl
   rw [List.length_take] at hlen
   generalize aG (l.take 8) i=u at hx hsn hpu
   generalize hcc:((l.take 8).take i).flatMap f8=c at hsn hlen
   obtain ⟨h6a,h6b,h6c⟩:=G6 (u.sl.map ay) 6 _ rfl
   have h6c:=h6c.trans List.map_take.symm
   rcases cG c with hc | ⟨o,z,hc⟩
   ·rw [hc]
    repeat' first|exact (bbk (by assumption)).elim|refine Q1 ?_|refine Q2 ?_|refine Q3 hG aa aJ ?_|refine Q4 hG aa aJ ?_|refine Q5 hG aa ?_|refine Q6 hG aa ?_|refine Q7 hG aa ?_|refine Q8 hG aa ?_|refine Q9 rfl ?_|refine QF rfl ?_|refine QC rfl ⟨fun h=>?_,fun h=>?_⟩|((conv=>whnf); first|refine anF ?_|refine anT ?_|refine anK ?_|refine And.intro (Int.natCast_nonneg i) (Exists.intro _ (And.intro hx ?_))|refine And.intro h6a (And.intro (Nat.zero_le _) (And.intro h6b ?_))|refine And.intro (fun h=>?_) (fun h=>?_)|refine Or.inl ?_)
    refine ap (X:=Nat) (fun j=>⟨(25,.int .i64 j)::(24,.int .i64 ((u.sl.take 6).map ay).length)::(23,.sl .no 3 ((u.sl.take 6).map ay))::(13,.int .i64 i)::(12,.int .i64 ((l.take 8).map aH).length)::(11,aK (l.take 8))::A3 (c++((u.sl.take 6).take j).map (·.p)),[]⟩) (fun j=>j≤(u.sl.take 6).length) (fun j=>(u.sl.take 6).length - j) 0 (Nat.zero_le _) (ah ?_ ?_) (fun j hj=>?_)
    ·refine And.intro rfl (And.intro (congrArg (fun z=>some (AV.int .i64 (z:List (List AV)).length)) h6c) (And.intro (congrArg (fun z=>some (AV.sl .no 3 z)) h6c) ?_))
     simp only [List.take_zero,List.map_nil,List.append_nil]
     rw [hc]
     repeat' (first | exact trivial | refine And.intro rfl ?_)
    ·repeat' (first | exact trivial | refine And.intro rfl ?_)
    ·have hj6:j≤6:=by rw [List.length_take] at hj; omega
     by_cases hlt_j:j<(u.sl.take 6).length
     ·have bbj:decide ((j:Int)<(((u.sl.take 6).map ay).length:Int))=false→False:=fun h=>by have:=of_decide_eq_false h; rw [List.length_map] at this; omega
      have hy:=dc hlt_j
      have hsn2:c++((u.sl.take 6).take (j+1)).map (·.p)=(c++((u.sl.take 6).take j).map (·.p))++[((u.sl.take 6).getD j ⟨0,0,0⟩).p]:=by
       rw [List.take_add_one,List.getElem?_eq_getElem hlt_j,List.getD_eq_getElem?_getD,List.getElem?_eq_getElem hlt_j]; simp
      have hlen2:(c++((u.sl.take 6).take j).map (·.p)).length≤100:=by rw [List.length_append,List.length_map,List.length_take]; omega
      generalize (u.sl.take 6).getD j ⟨0,0,0⟩=y at hy hsn2
      generalize c++((u.sl.take 6).take j).map (·.p)=d at hsn2 hlen2
      rcases cG d with hc | ⟨o,z,hc⟩
      ·rw [hc]
       repeat' first|exact (bbj (by assumption)).elim|refine Q1 ?_|refine Q2 ?_|refine Q3 hG aa aJ ?_|refine Q4 hG aa aJ ?_|refine Q5 hG aa ?_|refine Q6 hG aa ?_|refine Q7 hG aa ?_|refine Q8 hG aa ?_|refine Q9 rfl ?_|refine QF rfl ?_|refine QC rfl ⟨fun h=>?_,fun h=>?_⟩|((conv=>whnf); first|refine anF ?_|refine anT ?_|refine anK ?_|refine And.intro (Int.natCast_nonneg j) (Exists.intro _ (And.intro hy ?_))|refine Or.inr (And.intro rfl (And.intro (Nat.le_of_ble_eq_true rfl) (And.intro (Nat.le_of_ble_eq_true rfl) (And.intro (Nat.le_of_ble_eq_true rfl) ?_))))|refine And.intro (fun h=>?_) (fun h=>?_)|refine Or.inl ?_)
       refine Exists.intro (j+1) (And.intro hlt_j (And.intro (by omega) ?_))
       (try dsimp only)
       rw [hsn2,hc]
       refine ah (And.intro (congrArg some (ao (by omega))) ?_) ?_
       ·repeat' (first | exact trivial | refine And.intro rfl ?_)
       ·repeat' (first | exact trivial | refine And.intro rfl ?_)
      ·rw [hc,ed]
       have hln:((o++[z]).map fun h=>[AV.int .i64 h]).length=o.length+1:=by simp
       have hlo:o.length≤100:=by rw [hc] at hlen2; simp at hlen2; omega
       repeat' first|exact (bbj (by assumption)).elim|refine Q1 ?_|refine Q2 ?_|refine Q3 hG aa aJ ?_|refine Q4 hG aa aJ ?_|refine Q5 hG aa ?_|refine Q6 hG aa ?_|refine Q7 hG aa ?_|refine Q8 hG aa ?_|refine Q9 rfl ?_|refine QF rfl ?_|refine QC rfl ⟨fun h=>?_,fun h=>?_⟩|((conv=>whnf); first|refine anF ?_|refine anT ?_|refine anK ?_|refine And.intro (Int.natCast_nonneg j) (Exists.intro _ (And.intro hy ?_))|refine And.intro (Nat.le_of_ble_eq_true rfl) (And.intro (show ((((o++[z]).map fun h=>[AV.int .i64 h])).length+1)*8≤70368744177664 by rw [hln]; omega) (And.intro (show (((o++[z]).map fun h=>[AV.int .i64 h])).length+1≤4611686018427387904 by rw [hln]; omega) ?_))|refine And.intro (fun h=>?_) (fun h=>?_)|refine Or.inl ?_)
       refine Exists.intro (j+1) (And.intro hlt_j (And.intro (by omega) ?_))
       (try dsimp only)
       rw [hsn2,hc,rQ]
       refine ah (And.intro (congrArg some (ao (by omega))) ?_) ?_
       ·repeat' (first | exact trivial | refine And.intro rfl ?_)
       ·repeat' (first | exact trivial | refine And.intro rfl ?_)
     ·have bbj:decide ((j:Int)<(((u.sl.take 6).map ay).length:Int))=true→False:=fun h=>by have:=of_decide_eq_true h; rw [List.length_map] at this; omega
      have he:(u.sl.take 6).take j=u.sl.take 6:=List.take_of_length_le (by omega)
      have hsn3:c++((u.sl.take 6).take j).map (·.p)=((l.take 8).take (i+1)).flatMap f8:=by rw [hsn,hpu,he]
      rw [hsn3]
      have hnx:∀ d,((l.take 8).take (i+1)).flatMap f8=d→((l.take 8).take (i+1)).flatMap f8=d:=fun _ h=>h
      generalize hdd:((l.take 8).take (i+1)).flatMap f8=d
      rcases cG d with hc | ⟨o,z,hc⟩
      ·rw [hc]
       repeat' first|exact (bbj (by assumption)).elim|refine Q1 ?_|refine Q2 ?_|refine Q3 hG aa aJ ?_|refine Q4 hG aa aJ ?_|refine Q5 hG aa ?_|refine Q6 hG aa ?_|refine Q7 hG aa ?_|refine Q8 hG aa ?_|refine Q9 rfl ?_|refine QF rfl ?_|refine QC rfl ⟨fun h=>?_,fun h=>?_⟩|((conv=>whnf); first|refine anF ?_|refine anT ?_|refine anK ?_|refine And.intro (fun h=>?_) (fun h=>?_)|refine Or.inl ?_)
       refine Exists.intro (i+1) (And.intro hlt_i (And.intro (by omega) ?_))
       (try dsimp only)
       rw [hdd,hc]
       refine ah (And.intro (congrArg some (ao (by omega))) ?_) ?_
       ·repeat' (first | exact trivial | refine And.intro rfl ?_)
       ·repeat' (first | exact trivial | refine And.intro rfl ?_)
      ·rw [hc,ed]
       repeat' first|exact (bbj (by assumption)).elim|refine Q1 ?_|refine Q2 ?_|refine Q3 hG aa aJ ?_|refine Q4 hG aa aJ ?_|refine Q5 hG aa ?_|refine Q6 hG aa ?_|refine Q7 hG aa ?_|refine Q8 hG aa ?_|refine Q9 rfl ?_|refine QF rfl ?_|refine QC rfl ⟨fun h=>?_,fun h=>?_⟩|((conv=>whnf); first|refine anF ?_|refine anT ?_|refine anK ?_|refine And.intro (fun h=>?_) (fun h=>?_)|refine Or.inl ?_)
       refine Exists.intro (i+1) (And.intro hlt_i (And.intro (by omega) ?_))
       (try dsimp only)
       rw [hdd,hc,ed]
       refine ah (And.intro (congrArg some (ao (by omega))) ?_) ?_
       ·repeat' (first | exact trivial | refine And.intro rfl ?_)
       ·repeat' (first | exact trivial | refine And.intro rfl ?_)
   ·rw [hc,ed]
    repeat' first|exact (bbk (by assumption)).elim|refine Q1 ?_|refine Q2 ?_|refine Q3 hG aa aJ ?_|refine Q4 hG aa aJ ?_|refine Q5 hG aa ?_|refine Q6 hG aa ?_|refine Q7 hG aa ?_|refine Q8 hG aa ?_|refine Q9 rfl ?_|refine QF rfl ?_|refine QC rfl ⟨fun h=>?_,fun h=>?_⟩|((conv=>whnf); first|refine anF ?_|refine anT ?_|refine anK ?_|refine And.intro (Int.natCast_nonneg i) (Exists.intro _ (And.intro hx ?_))|refine And.intro h6a (And.intro (Nat.zero_le _) (And.intro h6b ?_))|refine And.intro (fun h=>?_) (fun h=>?_)|refine Or.inl ?_)
    refine ap (X:=Nat) (fun j=>⟨(25,.int .i64 j)::(24,.int .i64 ((u.sl.take 6).map ay).length)::(23,.sl .no 3 ((u.sl.take 6).map ay))::(13,.int .i64 i)::(12,.int .i64 ((l.take 8).map aH).length)::(11,aK (l.take 8))::A3 (c++((u.sl.take 6).take j).map (·.p)),[]⟩) (fun j=>j≤(u.sl.take 6).length) (fun j=>(u.sl.take 6).length - j) 0 (Nat.zero_le _) (ah ?_ ?_) (fun j hj=>?_)
    ·refine And.intro rfl (And.intro (congrArg (fun z=>some (AV.int .i64 (z:List (List AV)).length)) h6c) (And.intro (congrArg (fun z=>some (AV.sl .no 3 z)) h6c) ?_))
     simp only [List.take_zero,List.map_nil,List.append_nil]
     rw [hc,ed]
     repeat' (first | exact trivial | refine And.intro rfl ?_)
    ·repeat' (first | exact trivial | refine And.intro rfl ?_)
    ·have hj6:j≤6:=by rw [List.length_take] at hj; omega
     by_cases hlt_j:j<(u.sl.take 6).length
     ·have bbj:decide ((j:Int)<(((u.sl.take 6).map ay).length:Int))=false→False:=fun h=>by have:=of_decide_eq_false h; rw [List.length_map] at this; omega
      have hy:=dc hlt_j
      have hsn2:c++((u.sl.take 6).take (j+1)).map (·.p)=(c++((u.sl.take 6).take j).map (·.p))++[((u.sl.take 6).getD j ⟨0,0,0⟩).p]:=by
       rw [List.take_add_one,List.getElem?_eq_getElem hlt_j,List.getD_eq_getElem?_getD,List.getElem?_eq_getElem hlt_j]; simp
      have hlen2:(c++((u.sl.take 6).take j).map (·.p)).length≤100:=by rw [List.length_append,List.length_map,List.length_take]; omega
      generalize (u.sl.take 6).getD j ⟨0,0,0⟩=y at hy hsn2
      generalize c++((u.sl.take 6).take j).map (·.p)=d at hsn2 hlen2
      rcases cG d with hc | ⟨o,z,hc⟩
      ·rw [hc]
       repeat' first|exact (bbj (by assumption)).elim|refine Q1 ?_|refine Q2 ?_|refine Q3 hG aa aJ ?_|refine Q4 hG aa aJ ?_|refine Q5 hG aa ?_|refine Q6 hG aa ?_|refine Q7 hG aa ?_|refine Q8 hG aa ?_|refine Q9 rfl ?_|refine QF rfl ?_|refine QC rfl ⟨fun h=>?_,fun h=>?_⟩|((conv=>whnf); first|refine anF ?_|refine anT ?_|refine anK ?_|refine And.intro (Int.natCast_nonneg j) (Exists.intro _ (And.intro hy ?_))|refine Or.inr (And.intro rfl (And.intro (Nat.le_of_ble_eq_true rfl) (And.intro (Nat.le_of_ble_eq_true rfl) (And.intro (Nat.le_of_ble_eq_true rfl) ?_))))|refine And.intro (fun h=>?_) (fun h=>?_)|refine Or.inl ?_)
       refine Exists.intro (j+1) (And.intro hlt_j (And.intro (by omega) ?_))
       (try dsimp only)
       rw [hsn2,hc]
       refine ah (And.intro (congrArg some (ao (by omega))) ?_) ?_
       ·repeat' (first | exact trivial | refine And.intro rfl ?_)
       ·repeat' (first | exact trivial | refine And.intro rfl ?_)
      ·rw [hc,ed]
       have hln:((o++[z]).map fun h=>[AV.int .i64 h]).length=o.length+1:=by simp
       have hlo:o.length≤100:=by rw [hc] at hlen2; simp at hlen2; omega
       repeat' first|exact (bbj (by assumption)).elim|refine Q1 ?_|refine Q2 ?_|refine Q3 hG aa aJ ?_|refine Q4 hG aa aJ ?_|refine Q5 hG aa ?_|refine Q6 hG aa ?_|refine Q7 hG aa ?_|refine Q8 hG aa ?_|refine Q9 rfl ?_|refine QF rfl ?_|refine QC rfl ⟨fun h=>?_,fun h=>?_⟩|((conv=>whnf); first|refine anF ?_|refine anT ?_|refine anK ?_|refine And.intro (Int.natCast_nonneg j) (Exists.intro _ (And.intro hy ?_))|refine And.intro (Nat.le_of_ble_eq_true rfl) (And.intro (show ((((o++[z]).map fun h=>[AV.int .i64 h])).length+1)*8≤70368744177664 by rw [hln]; omega) (And.intro (show (((o++[z]).map fun h=>[AV.int .i64 h])).length+1≤4611686018427387904 by rw [hln]; omega) ?_))|refine And.intro (fun h=>?_) (fun h=>?_)|refine Or.inl ?_)
       refine Exists.intro (j+1) (And.intro hlt_j (And.intro (by omega) ?_))
       (try dsimp only)
       rw [hsn2,hc,rQ]
       refine ah (And.intro (congrArg some (ao (by omega))) ?_) ?_
       ·repeat' (first | exact trivial | refine And.intro rfl ?_)
       ·repeat' (first | exact trivial | refine And.intro rfl ?_)
     ·have bbj:decide ((j:Int)<(((u.sl.take 6).map ay).length:Int))=true→False:=fun h=>by have:=of_decide_eq_true h; rw [List.length_map] at this; omega
      have he:(u.sl.take 6).take j=u.sl.take 6:=List.take_of_length_le (by omega)
      have hsn3:c++((u.sl.take 6).take j).map (·.p)=((l.take 8).take (i+1)).flatMap f8:=by rw [hsn,hpu,he]
      rw [hsn3]
      have hnx:∀ d,((l.take 8).take (i+1)).flatMap f8=d→((l.take 8).take (i+1)).flatMap f8=d:=fun _ h=>h
      generalize hdd:((l.take 8).take (i+1)).flatMap f8=d
      rcases cG d with hc | ⟨o,z,hc⟩
      ·rw [hc]
       repeat' first|exact (bbj (by assumption)).elim|refine Q1 ?_|refine Q2 ?_|refine Q3 hG aa aJ ?_|refine Q4 hG aa aJ ?_|refine Q5 hG aa ?_|refine Q6 hG aa ?_|refine Q7 hG aa ?_|refine Q8 hG aa ?_|refine Q9 rfl ?_|refine QF rfl ?_|refine QC rfl ⟨fun h=>?_,fun h=>?_⟩|((conv=>whnf); first|refine anF ?_|refine anT ?_|refine anK ?_|refine And.intro (fun h=>?_) (fun h=>?_)|refine Or.inl ?_)
       refine Exists.intro (i+1) (And.intro hlt_i (And.intro (by omega) ?_))
       (try dsimp only)
       rw [hdd,hc]
       refine ah (And.intro (congrArg some (ao (by omega))) ?_) ?_
       ·repeat' (first | exact trivial | refine And.intro rfl ?_)
       ·repeat' (first | exact trivial | refine And.intro rfl ?_)
      ·rw [hc,ed]
       repeat' first|exact (bbj (by assumption)).elim|refine Q1 ?_|refine Q2 ?_|refine Q3 hG aa aJ ?_|refine Q4 hG aa aJ ?_|refine Q5 hG aa ?_|refine Q6 hG aa ?_|refine Q7 hG aa ?_|refine Q8 hG aa ?_|refine Q9 rfl ?_|refine QF rfl ?_|refine QC rfl ⟨fun h=>?_,fun h=>?_⟩|((conv=>whnf); first|refine anF ?_|refine anT ?_|refine anK ?_|refine And.intro (fun h=>?_) (fun h=>?_)|refine Or.inl ?_)
       refine Exists.intro (i+1) (And.intro hlt_i (And.intro (by omega) ?_))
       (try dsimp only)
       rw [hdd,hc,ed]
       refine ah (And.intro (congrArg some (ao (by omega))) ?_) ?_
       ·repeat' (first | exact trivial | refine And.intro rfl ?_)
       ·repeat' (first | exact trivial | refine And.intro rfl ?_)
  ·have bbk:decide ((i:Int)<(((l.take 8).map aH).length:Int))=true→False:=fun h=>by have:=of_decide_eq_true h; rw [List.length_map] at this; omega
   have he:(l.take 8).take i=l.take 8:=List.take_of_length_le (by omega)
   have hraw:((l.take 8).take i).flatMap f8=tJ l:=by rw [he]; rfl
   have hlen:=uk (l.take 8)
   have hl8:(l.take 8).length≤8:=by rw [List.length_take]; omega
   have hlen:(tJ l).length≤48:=Nat.le_trans hlen (by omega)
   have hfk:az l=Lib.compact (sortI (tJ l)):=rfl
   rw [hraw,hfk]
   generalize tJ l=c at hlen
   rcases cG c with hc | ⟨o,z,hc⟩
   ·rw [hc]
    repeat' first|exact (bbk (by assumption)).elim|refine Q1 ?_|refine Q2 ?_|refine Q3 hG aa aJ ?_|refine Q4 hG aa aJ ?_|refine Q5 hG aa ?_|refine Q6 hG aa ?_|refine Q7 hG aa ?_|refine Q8 hG aa ?_|refine Q9 rfl ?_|refine QF rfl ?_|refine QC rfl ⟨fun h=>?_,fun h=>?_⟩|((conv=>whnf); first|refine anF ?_|refine anT ?_|refine anK ?_|refine Exists.intro _ (And.intro (tQ _) ?_)|refine Exists.intro _ (And.intro (pX _ 1) ?_)|refine And.intro (fun h=>?_) (fun h=>?_)|refine Or.inl ?_)
    have h0:Lib.compact (sortI [])=[]:=by simp [sortI,Lib.compact,Lib.compactUpTo]
    rw [h0]
    exact Ends.mk (Or.inl rfl) (ac rfl)
   ·rw [hc,ed]
    have hsl:(sortI (o++[z])).length≤1000000:=by unfold sortI; rw [List.length_mergeSort]; rw [hc] at hlen; omega
    have hso:(o++[z]).length≤1000000:=by rw [hc] at hlen; omega
    refine Q1 ?_
    refine Q4 hG aa aJ ?_
    conv=>whnf
    refine Q1 ?_
    refine QC rfl (And.intro (fun h=>(bbk h).elim) (fun _=>?_))
    refine Q8 hG aa ?_
    conv=>whnf
    refine Q1 ?_
    refine SPB.oregW hG aa aJ 1 (by kernel_rfl) ?_
    conv=>whnf
    refine And.intro rfl (Exists.intro _ (Exists.intro _ (And.intro (xY _ hso) (And.intro rfl (And.intro (xj _).symm ?_)))))
    conv=>whnf
    refine Q1 ?_
    refine SPB.oregX hG aa aJ 1 (by kernel_rfl) ?_
    conv=>whnf
    refine Exists.intro _ (Exists.intro _ (And.intro (tX _ hsl) (And.intro rfl (And.intro (Dr _) ?_))))
    rintro r rows' rfl _ _
    conv=>whnf
    repeat' first|refine Q1 ?_|refine Q2 ?_|refine Q3 hG aa aJ ?_|refine Q4 hG aa aJ ?_|refine Q5 hG aa ?_|refine Q6 hG aa ?_|refine Q7 hG aa ?_|refine Q8 hG aa ?_|refine Q9 rfl ?_|refine QF rfl ?_|refine QC rfl ⟨fun h=>?_,fun h=>?_⟩|((conv=>whnf); first|refine anF ?_|refine anT ?_|refine anK ?_|refine And.intro (fun h=>?_) (fun h=>?_)|refine Or.inl ?_)
    exact Ends.mk (Or.inl rfl) (ac (congrArg (fun z=>AV.sl .no 1 z) (xj _)))
end Go.Proofs
namespace Go.Proofs
open Go Go.AI
set_option maxRecDepth 10000
theorem CQ {n:Nat} (h:n≤6):IntKind.i64.wrap (1*2 ^ (min (n:Int).toNat IntKind.i64.bits))=((2 ^ n:Nat):Int):=by
 match n,h with
 | 0,_ | 1,_ | 2,_ | 3,_ | 4,_ | 5,_ | 6,_=>decide
theorem FU:((List.range 64).all fun b=>(List.range 6).all fun i=>(pR .and .i64 ((b:Int).fdiv (2 ^ (min (i:Int).toNat IntKind.i64.bits))) 1==1)==vL b i)=true:=by kernel_rfl
theorem GP {b i:Nat} (hb:b<64) (hi:i<6):(pR .and .i64 ((b:Int).fdiv (2 ^ (min (i:Int).toNat IntKind.i64.bits))) 1==1)=vL b i:=by
 have h:=List.all_eq_true.1 (List.all_eq_true.1 FU b (List.mem_range.2 hb)) i (List.mem_range.2 hi)
 exact beq_iff_eq.1 h
theorem rT {n:Nat} (h:n≤6):2 ^ n≤64:=by
 match n,h with
 | 0,_ | 1,_ | 2,_ | 3,_ | 4,_ | 5,_ | 6,_=>decide
theorem yO {f:List Int} {ps:List am} {k:Int} {b n:Nat} (hb:b<n) (h:ey ps (fk f b) k=true):(dC f ps k n)[(dC f ps k b).length]?=some (fk f b):=by
 have e:dC f ps k n=dC f ps k (b+1)++((((List.range n).map (fk f)).drop (b+1)).filter fun l=>ey ps l k):=by
  unfold dC
  rw [← List.filter_append]
  congr 1
  have h1:(List.range (b+1)).map (fk f)=((List.range n).map (fk f)).take (b+1):=by
   rw [← List.map_take,List.take_range,Nat.min_eq_left (by omega)]
  rw [h1,List.take_append_drop]
 rw [e,ky,if_pos h,List.append_assoc,List.getElem?_append_right (Nat.le_refl _),Nat.sub_self]
 rfl
theorem uW (f:List Int) (ps:List am) (k:Int):ae Tryz.prog 118 [aw f,al ps,.int .i64 k] (.clo 191 [.ref [aw f],.ref [al ps],.ref [.int .i64 k]]):=by
 refine ag aa Tryz.func118 rfl (by kernel_rfl) af (Nat.le_of_ble_eq_true rfl) ?_
 intro F n' w0 m0 hG hro h1
 repeat' first|refine Q1 ?_|refine Q2 ?_|refine Q3 hG aa o7 ?_|refine Q4 hG aa o7 ?_|refine Q5 hG aa ?_|refine Q6 hG aa ?_|refine Q7 hG aa ?_|refine Q8 hG aa ?_|refine Q9 rfl ?_|refine QF rfl ?_|refine QC rfl ⟨fun h=>?_,fun h=>?_⟩|((conv=>whnf); first|refine anF ?_|refine anT ?_|refine anK ?_|refine And.intro (fun h=>?_) (fun h=>?_)|refine Or.inl ?_)
 all_goals exact Ends.mk (Or.inl rfl) (ac rfl)
set_option maxHeartbeats 8000000 in
theorem nH (f:List Int) (ps:List am) (k:Int) (hf:f.length≤6) (hps:ps.length≤1000000):lS Tryz.prog (fun l=>[aw l]) 191 [.ref [aw f],.ref [al ps],.ref [.int .i64 k]] (bj f ps k):=by
 have hfl:(f.map fun h=>[AV.int .i64 h]).length=f.length:=List.length_map _
 have h64:=rT hf
 refine lS.of Tryz.func191 rfl (by kernel_rfl) af (Nat.le_of_ble_eq_true rfl) rfl ?_
 intro F n m y J Jx hY
 repeat' first|refine MPB.seq ?_|refine MPB.block ?_|refine MPB.reg hY aa d5 (by kernel_rfl) ?_|refine MPB.skip ?_|refine MPB.label ?_|refine MPB.ret ?_|refine MPB.exit ?_|refine MPB.condT rfl ?_|refine MPB.condF rfl ?_|refine MPB.cond rfl (And.intro (fun h=>?_) (fun h=>?_))|((conv=>whnf); first|refine anF ?_|refine anT ?_|refine anK ?_|refine And.intro (Int.natCast_nonneg _) ?_|refine And.intro (fun h=>?_) (fun h=>?_)|refine Or.inl ?_)
 refine MPB.loop (X:=Nat) (fun b=>((false,(dC f ps k b).length),⟨[(12,.int .i64 b),(11,.int .i64 ((2 ^ f.length:Nat):Int)),(3,.ref [.int .i64 k]),(2,.ref [al ps]),(1,.ref [aw f]),(0,.lit (.func (.yield y) #[] #[]))],[]⟩)) (fun b=>b≤2 ^ f.length) (fun b=>2 ^ f.length - b) 0 (Nat.zero_le _) rfl (ah ?_ ?_) (fun b hb=>?_)
 ·refine And.intro rfl (And.intro (congrArg (fun z=>some (AV.int .i64 z)) ?_) ?_)
  ·rw [hfl]; exact CQ hf
  ·repeat' (first | exact trivial | refine And.intro rfl ?_)
 ·repeat' (first | exact trivial | refine And.intro rfl ?_)
 ·by_cases hlt:b<2 ^ f.length
  ·have bbk:decide ((b:Int)<((2 ^ f.length:Nat):Int))=false→False:=fun h=>by have:=of_decide_eq_false h; omega
   repeat' first|exact (bbk (by assumption)).elim|refine MPB.seq ?_|refine MPB.block ?_|refine MPB.reg hY aa d5 (by kernel_rfl) ?_|refine MPB.skip ?_|refine MPB.label ?_|refine MPB.ret ?_|refine MPB.exit ?_|refine MPB.condT rfl ?_|refine MPB.condF rfl ?_|refine MPB.cond rfl (And.intro (fun h=>?_) (fun h=>?_))|((conv=>whnf); first|refine anF ?_|refine anT ?_|refine anK ?_|refine And.intro (fun h=>?_) (fun h=>?_)|refine Or.inl ?_)
   refine MPB.loop (X:=Nat) (fun i=>((false,(dC f ps k b).length),⟨[(17,.int .i64 i),(6,.sl (.id 6) 1 ((eq f b i).map fun h=>[AV.int .i64 h])),(16,.int .i64 (f.map fun h=>[AV.int .i64 h]).length),(15,aw f),(5,.int .i64 b),(12,.int .i64 b),(11,.int .i64 ((2 ^ f.length:Nat):Int)),(3,.ref [.int .i64 k]),(2,.ref [al ps]),(1,.ref [aw f]),(0,.lit (.func (.yield y) #[] #[]))],[]⟩)) (fun i=>i≤f.length) (fun i=>f.length - i) 0 (Nat.zero_le _) rfl (ah ?_ ?_) (fun i hi=>?_)
   ·repeat' (first | exact trivial | refine And.intro rfl ?_)
   ·repeat' (first | exact trivial | refine And.intro rfl ?_)
   ·by_cases hli:i<f.length
    ·have bbi:decide ((i:Int)<((f.map fun h=>[AV.int .i64 h]).length:Int))=false→False:=fun h=>by have:=of_decide_eq_false h; rw [hfl] at this; omega
     have hx:(f.map fun h=>[AV.int .i64 h])[(i:Int).toNat]?=some [.int .i64 (f.getD i 0)]:=by simp [List.getElem?_eq_getElem hli]
     have hbit:=GP (b:=b) (i:=i) (by omega) (by omega)
     have hst:=lX (b:=b) hli
     have hln:((eq f b i).map fun h=>[AV.int .i64 h]).length≤6:=by rw [List.length_map]; have:=jm f b i; omega
     generalize f.getD i 0=v at hx hst
     repeat' first|exact (bbi (by assumption)).elim|refine MPB.seq ?_|refine MPB.block ?_|refine MPB.reg hY aa d5 (by kernel_rfl) ?_|refine MPB.skip ?_|refine MPB.label ?_|refine MPB.ret ?_|refine MPB.exit ?_|refine MPB.condT rfl ?_|refine MPB.condF rfl ?_|refine MPB.cond rfl (And.intro (fun h=>?_) (fun h=>?_))|((conv=>whnf); first|refine anF ?_|refine anT ?_|refine anK ?_|refine And.intro (Int.natCast_nonneg i) (Exists.intro _ (And.intro hx ?_))|refine And.intro (Int.natCast_nonneg i) ?_|refine And.intro (show (((eq f b i).map fun h=>[AV.int .i64 h]).length+1)*8≤70368744177664 by omega) (And.intro (show ((eq f b i).map fun h=>[AV.int .i64 h]).length+1≤4611686018427387904 by omega) ?_)|refine And.intro (fun h=>?_) (fun h=>?_)|refine Or.inl ?_)
     ·have ht:vL b i=true:=by rw [← hbit]; assumption
      rw [if_pos ht] at hst
      refine Exists.intro (i+1) (And.intro hli (And.intro (by omega) (And.intro rfl (ah ?_ ?_))))
      ·refine And.intro (congrArg some (ao (by omega))) (And.intro (congrArg (fun z=>some (AV.sl (.id 6) 1 z)) ?_) ?_)
       ·rw [hst,List.map_append]; rfl
       ·repeat' (first | exact trivial | refine And.intro rfl ?_)
      ·repeat' (first | exact trivial | refine And.intro rfl ?_)
     ·have ht:vL b i=false:=by rw [← hbit]; assumption
      rw [if_neg (by rw [ht]; decide),List.append_nil] at hst
      refine Exists.intro (i+1) (And.intro hli (And.intro (by omega) (And.intro rfl (ah ?_ ?_))))
      ·refine And.intro (congrArg some (ao (by omega))) (And.intro (congrArg (fun z=>some (AV.sl (.id 6) 1 z)) ?_) ?_)
       ·rw [hst]
       ·repeat' (first | exact trivial | refine And.intro rfl ?_)
      ·repeat' (first | exact trivial | refine And.intro rfl ?_)
    ·have bbi:decide ((i:Int)<((f.map fun h=>[AV.int .i64 h]).length:Int))=true→False:=fun h=>by have:=of_decide_eq_true h; rw [hfl] at this; omega
     have he:i=f.length:=by omega
     have hsub:eq f b i=fk f b:=by rw [he]; rfl
     rw [hsub]
     have hsl:(fk f b).length≤1000000:=Nat.le_trans (jm f b f.length) (by omega)
     have hsucc:=ky f ps k b
     have hitem:ey ps (fk f b) k=true→(bj f ps k)[(dC f ps k b).length]?=some (fk f b):=yO hlt
     have cA:=we ps (fk f b) k hsl hps
     generalize fk f b=u at *
     repeat' first|exact (bbi (by assumption)).elim|refine MPB.seq ?_|refine MPB.block ?_|refine MPB.reg hY aa d5 (by kernel_rfl) ?_|refine MPB.skip ?_|refine MPB.label ?_|refine MPB.ret ?_|refine MPB.exit ?_|refine MPB.condT rfl ?_|refine MPB.condF rfl ?_|refine MPB.cond rfl (And.intro (fun h=>?_) (fun h=>?_))|((conv=>whnf); first|refine anF ?_|refine anT ?_|refine anK ?_|refine Exists.intro _ (And.intro (cA) ?_)|refine And.intro (fun h=>?_) (fun h=>?_)|refine Or.inl ?_)
     ·have ha:ey ps u k=true:=by assumption
      rw [if_pos ha] at hsucc
      refine Exists.intro u (And.intro (hitem ha) (And.intro rfl (fun t ht=>?_)))
      subst ht
      refine And.intro ?_ ?_
      ·repeat' first|refine MPB.seq ?_|refine MPB.block ?_|refine MPB.reg hY aa d5 (by kernel_rfl) ?_|refine MPB.skip ?_|refine MPB.label ?_|refine MPB.ret ?_|refine MPB.exit ?_|refine MPB.condT rfl ?_|refine MPB.condF rfl ?_|refine MPB.cond rfl (And.intro (fun h=>?_) (fun h=>?_))|((conv=>whnf); first|refine anF ?_|refine anT ?_|refine anK ?_|refine And.intro (fun h=>?_) (fun h=>?_)|refine Or.inl ?_)
       refine Exists.intro (b+1) (And.intro hlt (And.intro (by omega) (And.intro (congrArg (Prod.mk false) (by rw [hsucc]; simp)) (ah ?_ ?_))))
       ·refine And.intro (congrArg some (ao (by omega))) ?_
        repeat' (first | exact trivial | refine And.intro rfl ?_)
       ·repeat' (first | exact trivial | refine And.intro rfl ?_)
      ·repeat' first|refine MPB.seq ?_|refine MPB.block ?_|refine MPB.reg hY aa d5 (by kernel_rfl) ?_|refine MPB.skip ?_|refine MPB.label ?_|refine MPB.ret ?_|refine MPB.exit ?_|refine MPB.condT rfl ?_|refine MPB.condF rfl ?_|refine MPB.cond rfl (And.intro (fun h=>?_) (fun h=>?_))|((conv=>whnf); first|refine anF ?_|refine anT ?_|refine anK ?_|refine And.intro (fun h=>?_) (fun h=>?_)|refine Or.inl ?_)
       exact iJ.mk (Or.inl rfl) (Or.inr rfl)
     ·have ha:ey ps u k=false:=by assumption
      rw [if_neg (by rw [ha]; decide),List.append_nil] at hsucc
      refine Exists.intro (b+1) (And.intro hlt (And.intro (by omega) (And.intro (congrArg (Prod.mk false) (by rw [hsucc])) (ah ?_ ?_))))
      ·refine And.intro (congrArg some (ao (by omega))) ?_
       repeat' (first | exact trivial | refine And.intro rfl ?_)
      ·repeat' (first | exact trivial | refine And.intro rfl ?_)
  ·have bbk:decide ((b:Int)<((2 ^ f.length:Nat):Int))=true→False:=fun h=>by have:=of_decide_eq_true h; omega
   have he:b=2 ^ f.length:=by omega
   repeat' first|exact (bbk (by assumption)).elim|refine MPB.seq ?_|refine MPB.block ?_|refine MPB.reg hY aa d5 (by kernel_rfl) ?_|refine MPB.skip ?_|refine MPB.label ?_|refine MPB.ret ?_|refine MPB.exit ?_|refine MPB.condT rfl ?_|refine MPB.condF rfl ?_|refine MPB.cond rfl (And.intro (fun h=>?_) (fun h=>?_))|((conv=>whnf); first|refine anF ?_|refine anT ?_|refine anK ?_|refine And.intro (fun h=>?_) (fun h=>?_)|refine Or.inl ?_)
   exact iJ.mk (Or.inr rfl) (Or.inl (congrArg (Prod.mk false) (by rw [he]; rfl)))
def fR (l:List Opt) (ps:List am) (k:Int):Bool:=decide ((l.length:Int)>8)||(decide (k<0)||(decide (k>3)||(!bz ps||l.any fun o => !bB o ps)))
def c8 (l:List Opt) (ps:List am) (k:Int):Bool:=fR l ps k||decide (((az l).length:Int)>6)
def ka (l:List (List Int)):AV := .sl .no 1 (l.map fun x=>[aw x])
def wy (l:List Opt) (ps:List am) (k:Int):AV := .tup (if c8 l ps k then [.sl .full 0 [],.int .i64 210] else [ka (bj (az l) ps k),.int .i64 0])
theorem tu (o:Opt) (ps:List am) (hl:o.sl.length≤1000000) (hps:ps.length≤1000000):ae Tryz.prog 116 ((.agg (aH o))::[.ref [al ps]]) (.bool (!bB o ps)):=by
 refine ag aa Tryz.func116 rfl (by kernel_rfl) af (Nat.le_of_ble_eq_true rfl) ?_
 intro F n' w0 m0 hG hro h1
 repeat' first|refine Q1 ?_|refine Q2 ?_|refine Q3 hG aa o8 ?_|refine Q4 hG aa o8 ?_|refine Q5 hG aa ?_|refine Q6 hG aa ?_|refine Q7 hG aa ?_|refine Q8 hG aa ?_|refine Q9 rfl ?_|refine QF rfl ?_|refine QC rfl ⟨fun h=>?_,fun h=>?_⟩|((conv=>whnf); first|refine anF ?_|refine anT ?_|refine anK ?_|refine Exists.intro _ (And.intro (qC o ps hl hps) ?_)|refine And.intro (fun h=>?_) (fun h=>?_)|refine Or.inl ?_)
 all_goals exact Ends.mk (Or.inl rfl) (ac rfl)
theorem th (l:List Opt) (ps:List am) (k:Int) (hl:l.length≤1000000) (hs:dQ l) (hps:ps.length≤1000000):ae Tryz.prog 48 [aK l,al ps,.int .i64 k] (wy l ps k):=by
 have cB:=jA l (fun o => !bB o ps) 116 _ [.ref [al ps]] (Or.inl rfl) hl (fun o ho=>tu o ps (hs o ho) hps)
 have hlm:((l.map aH).length:Int)=(l.length:Int):=by rw [List.length_map]
 have hfm:(((az l).map fun h=>[AV.int .i64 h]).length:Int)=((az l).length:Int):=by rw [List.length_map]
 refine ag aa Tryz.func48 rfl (by kernel_rfl) af (Nat.le_of_ble_eq_true rfl) ?_
 intro F n' w0 m0 hG hro h1
 repeat' first|refine Q1 ?_|refine Q2 ?_|refine Q3 hG aa eA ?_|refine Q4 hG aa eA ?_|refine Q5 hG aa ?_|refine Q6 hG aa ?_|refine Q7 hG aa ?_|refine Q8 hG aa ?_|refine Q9 rfl ?_|refine QF rfl ?_|refine QC rfl ⟨fun h=>?_,fun h=>?_⟩|((conv=>whnf); first|refine anF ?_|refine anT ?_|refine anK ?_|refine Exists.intro _ (And.intro (fi ps hps) ?_)|refine Exists.intro _ (And.intro (cB) ?_)|refine Exists.intro _ (And.intro (iI l hl hs) ?_)|refine Exists.intro _ (And.intro (uW _ _ _) ?_)|refine And.intro (fun h=>?_) (fun h=>?_)|refine Or.inl ?_)
 all_goals first
  |(refine Ends.mk (Or.inl rfl) (ac ?_)
    have h:c8 l ps k=true:=by clear hG; grind [c8,fR]
    simp only [wy,h,if_true]; rfl)
  | skip
 have hnb:c8 l ps k=false:=by clear hG; grind [c8,fR]
 have hf6:(az l).length≤6:=by
  simp only [c8,Bool.or_eq_false_iff,decide_eq_false_iff_not] at hnb; omega
 have hseq:=nH (az l) ps k hf6 hps
 have hlen:(bj (az l) ps k).length≤64:=by
  unfold bj dC
  refine Nat.le_trans (List.length_filter_le _ _) ?_
  rw [List.length_map,List.length_range]; exact rT hf6
 rw [wy,hnb,if_neg (by decide)]
 generalize bj (az l) ps k=items at hseq hlen
 refine SPB.resize 6 0 1006000 1 rfl rfl ?_
 conv=>whnf
 refine ⟨SP.rangeM hG hro (Nat.le_trans (by decide) h1) (α:=List Int) (fun l=>[aw l]) (f:=191) (cap:=[.ref [aw (az l)],.ref [al ps],.ref [.int .i64 k]]) (items:=items) rfl hseq (fun _=>rfl) (fun _=>[(6,.loc 6 0)]) [6] (fun _=>rfl)
  (fun p=>[(6,[.sl (.id 1006000) 1 (p.map fun x=>[aw x])])]) (ah ?_ ?_) (by kernel_rfl) (by decide) ?_ ?_⟩
 ·repeat' (first | exact trivial | refine And.intro rfl ?_)
 ·repeat' (first | exact trivial | refine And.intro rfl ?_)
 ·intro F' n'' m' hG' pre x rest hx
  clear hG
  have hG:=hG'
  have hpl:pre.length<64:=by
   have:=congrArg List.length hx
   simp at this; omega
  have hrow:(pre++[x]).map (fun x=>[aw x])=pre.map (fun x=>[aw x])++[[aw x]]:=by simp
  have hln:(pre.map fun x=>[aw x]).length<64:=by simpa using hpl
  generalize (pre.map fun x=>[aw x])=row at hrow hln
  refine SPB.out (Q4 hG aa eA ?_)
  conv=>whnf
  refine And.intro rfl (And.intro (ah ?_ ?_) ?_)
  ·repeat' (first | exact trivial | refine And.intro rfl ?_)
  ·repeat' (first | exact trivial | refine And.intro rfl ?_)
  refine SPB.out ?_
  repeat' first|refine Q1 ?_|refine Q2 ?_|refine Q3 hG aa eA ?_|refine Q4 hG aa eA ?_|refine Q5 hG aa ?_|refine Q6 hG aa ?_|refine Q7 hG aa ?_|refine Q8 hG aa ?_|refine Q9 rfl ?_|refine QF rfl ?_|refine QC rfl ⟨fun h=>?_,fun h=>?_⟩|((conv=>whnf); first|refine anF ?_|refine anT ?_|refine anK ?_|refine And.intro (show (row.length+1)*24≤70368744177664 by omega) (And.intro (show row.length+1≤4611686018427387904 by omega) ?_)|refine And.intro (fun h=>?_) (fun h=>?_)|refine Or.inl ?_)
  refine ah ?_ ?_
  ·repeat' (first | exact trivial | refine And.intro rfl ?_)
  ·dsimp only; rw [hrow]; repeat' (first | exact trivial | refine And.intro rfl ?_)
 ·conv=>whnf
  repeat' first|refine Q1 ?_|refine Q2 ?_|refine Q3 hG aa eA ?_|refine Q4 hG aa eA ?_|refine Q5 hG aa ?_|refine Q6 hG aa ?_|refine Q7 hG aa ?_|refine Q8 hG aa ?_|refine Q9 rfl ?_|refine QF rfl ?_|refine QC rfl ⟨fun h=>?_,fun h=>?_⟩|((conv=>whnf); first|refine anF ?_|refine anT ?_|refine anK ?_|refine And.intro (fun h=>?_) (fun h=>?_)|refine Or.inl ?_)
  all_goals exact Ends.mk (Or.inl rfl) (ac rfl)
end Go.Proofs
namespace Go.Proofs
open Go Go.AI
set_option maxRecDepth 10000
def nf (o:Opt) (k:Nat):Img:=if k<o.sl.length then ⟨o.id,o.size,o.a,(er o k).b⟩ else ⟨o.id,o.size,o.a,fE o⟩
def pD (o:Opt) (k:Nat):Opt:=if k<o.sl.length then { o with sl:=o.sl.take (k+1) } else o
theorem uD:∀ (l:List aV) (t:Int),fa t l=true→∀ x∈l,t≤x.a∧x.a<x.b
 | [],_,_,x,hx=>nomatch hx
 | y::r,t,h,x,hx=>by
  simp only [fa,jX,Bool.and_eq_true,decide_eq_true_eq] at h
  rcases List.mem_cons.1 hx with rfl | hx
  ·omega
  ·have:=uD r y.b h.2 x hx
   omega
theorem rX:∀ (l pre:List Img),ef pre l=true↔(∀ x∈l,(0≤x.i∧x.i≤63)∧(1≤x.u∧x.u≤1000000)∧0≤x.a∧x.a<x.b∧x.b≤1000001)∧l.Pairwise (fun x y=>x.i≠y.i)∧∀ p∈pre,∀ x∈l,p.i≠x.i
 | [],pre=>by simp [ef]
 | x::r,pre=>by
  rw [ef,Bool.and_eq_true,rX r (pre++[x]),js,ij]
  simp only [inM,spM,Bool.and_eq_true,Bool.not_eq_true',decide_eq_true_eq,List.any_eq_false,beq_iff_eq,List.mem_cons,List.pairwise_cons,forall_eq_or_imp,List.mem_append,List.not_mem_nil,or_false]
  constructor
  ·rintro ⟨⟨g1,g2,g3,g4⟩,g5,g6,g7⟩
   exact ⟨⟨⟨g1,g3,g4.1,g4.2.1,g4.2.2⟩,g5⟩,⟨fun y hy=>g7 x (.inr rfl) y hy,g6⟩,fun p hp=>⟨fun e=>g2 p hp e,fun y hy=>g7 p (.inl hp) y hy⟩⟩
  ·rintro ⟨⟨⟨g1,g3,g4,g4',g4''⟩,g5⟩,⟨g6,g7⟩,g8⟩
   refine ⟨⟨g1,fun p hp e=>(g8 p hp).1 e,g3,g4,g4',g4''⟩,g5,g7,fun p hp y hy=>?_⟩
   rcases hp with hp | rfl
   ·exact (g8 p hp).2 y hy
   ·exact g6 y hy
theorem zY {o:Opt} {k:Nat} (h:k<o.sl.length):er o k∈o.sl:=by
 unfold er
 rw [List.getD_eq_getElem?_getD,List.getElem?_eq_getElem h]
 exact List.getElem_mem h
end Go.Proofs
