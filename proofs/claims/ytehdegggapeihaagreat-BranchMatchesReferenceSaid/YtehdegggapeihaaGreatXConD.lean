/- Contracts of the functions and plain facts about what they reckon, part 4: called with arguments that read so, each hands back what is typed. The conditions are those typed. -/
import Derived.Test.YtehdegggapeihaaGreatXConC
import Derived.Lib.SlicesCompact
import Derived.Shelf.Lays
import Derived.Shelf.Lays2
set_option linter.unusedSectionVars false
set_option linter.unusedVariables false
set_option linter.unusedSimpArgs false
namespace Go.Proofs
open Go Go.AI
set_option maxRecDepth 10000
theorem ij (c n : Int) (hn : n ≠ 0) : ae Tryz.prog 44 [.int .i64 c,.int .i64 n] (.int .i64 (am c n)):=by
 refine ag aa Tryz.func44 rfl (by kernel_rfl) af (Nat.le_of_ble_eq_true rfl) ?_
 intro F n' w0 m0 hG hro h1
 repeat' first|refine Q1 ?_|refine Q2 ?_|refine Q3 hG aa qa ?_|refine Q4 hG aa qa ?_|refine Q5 hG aa ?_|refine Q6 hG aa ?_|refine Q7 hG aa ?_|refine Q8 hG aa ?_|refine Q9 rfl ?_|refine QF rfl ?_|refine QC rfl ⟨fun h => ?_,fun h => ?_⟩|((conv => whnf); first|refine anF ?_|refine anT ?_|refine anK ?_|refine And.intro hn ?_|refine And.intro (fun h => ?_) (fun h => ?_)|refine Or.inl ?_)
 all_goals refine Ends.mk (Or.inl rfl) (ac (congrArg (AV.int .i64) ?_))
 all_goals (simp_all [am,w64] <;> omega)
theorem Bi (o : Opt) : ae Tryz.prog 43 [.agg (aH o)] (.agg (aH (wg o))):=by
 have h0 : 0 ≤ min ((o.sl.map aw).length : Int) 7:=by omega
 have h7 : (min ((o.sl.map aw).length : Int) 7).toNat ≤ (o.sl.map aw).length:=by omega
 have hr : (((o.sl.map aw).take (min ((o.sl.map aw).length : Int) 7).toNat).drop 0) = (wg o).sl.map aw:=by
  rw [List.drop_zero,wg,List.map_take,List.length_map]
  rcases Nat.le_total o.sl.length 7 with h | h
  ·rw [List.take_of_length_le (by simp; omega),List.take_of_length_le (by simp; omega)]
  ·rw [show (min (o.sl.length : Int) 7).toNat = 7 by omega]
 refine ag aa Tryz.func43 rfl (by kernel_rfl) af (Nat.le_of_ble_eq_true rfl) ?_
 intro F n' w0 m0 hG hro h1
 repeat' first|refine Q1 ?_|refine Q2 ?_|refine Q3 hG aa qb ?_|refine Q4 hG aa qb ?_|refine Q5 hG aa ?_|refine Q6 hG aa ?_|refine Q7 hG aa ?_|refine Q8 hG aa ?_|refine Q9 rfl ?_|refine QF rfl ?_|refine QC rfl ⟨fun h => ?_,fun h => ?_⟩|((conv => whnf); first|refine anF ?_|refine anT ?_|refine anK ?_|refine And.intro h0 (And.intro (Nat.zero_le _) (And.intro h7 ?_))|refine And.intro (fun h => ?_) (fun h => ?_)|refine Or.inl ?_)
 all_goals exact Ends.mk (Or.inl rfl) (ac (congrArg (fun z => AV.agg [.int .i64 o.id,.int .i64 o.ord,.int .i64 o.cl,.int .i64 o.sat,.int .i64 o.a,.int .i64 o.b,.int .i64 o.look,.int .i64 o.size,.sl .no 3 z]) hr))
end Go.Proofs
namespace Go.Proofs
open Go Go.AI
set_option maxRecDepth 10000
namespace bQ
def ga (c : bQ) : Int:=am c.from_ 900000
def gb (c : bQ) : Int:=c.ga + 240
def gps (c : bQ) : List al:=gu (c.s 0) c.ga c.z
def gl (c : bQ) : List Opt:=yS c.s c.gps c.ga 10 c.v
end bQ
theorem bQ.grng (c : bQ) : 0 ≤ c.ga ∧ c.ga < 900000:=aN c.hf (n:=900000) (by omega)
theorem bQ.gpasses (c : bQ) : bp c.gps = true ∧ c.gps.length ≤ 6 ∧ ∀ p ∈ c.gps,c.ga ≤ p.sa ∧ p.sa < p.sb ∧ p.sb ≤ c.ga + 186:=
 zH (by rw [c.s0]; omega) (by have:=c.grng; omega) c.hz
theorem bQ.goptH (c : bQ) : FJ c.s c.gps c.ga 10:=by
 obtain ⟨h1,h2,h3,_⟩:=yH c.sat
 have hr:=c.grng
 obtain ⟨p1,p2,p3⟩:=c.gpasses
 exact ⟨h1,h2,h3,by omega,by omega,by omega,fun p hp => by have:=p3 p hp; omega⟩
theorem bQ.glen (c : bQ) : c.gl.length ≤ 5:=Nat.le_trans (lD _ _ _ _ _ _) (Nat.min_le_right _ _)
theorem bQ.gvalid (c : bQ) : aX c.s c.gl c.gps c.ga c.gb = true:=by
 obtain ⟨p1,p2,p3⟩:=c.gpasses
 have hr:=c.grng
 have hl:=c.glen
 refine bC.2 ⟨by omega,by unfold bQ.gb; omega,by unfold bQ.gb; omega,c.sat,p1,fun o ho => ?_,qY c.hv _ (Nat.min_le_left _ _)⟩
 obtain ⟨h1,h2,_⟩:=lC c.hv _ (Nat.min_le_left _ _) o ho
 have hf : dp c.s o c.gps = true:=by simp only [f8,Bool.and_eq_true] at h1; exact h1.2
 refine ⟨hf,h2,Am (fun p hp => ?_) (by omega) hf⟩
 have:=p3 p hp
 unfold bQ.gb; omega
theorem yr (c : bQ) : ae Tryz.prog 42 [.agg (wt c)] (.tup [.agg (bg c.s),aM c.gl,ak c.gps,.agg (aK c.ga c.gb)]):=by
 have cA : ae Tryz.prog 44 [.int .i64 c.from_,.int .i64 900000] (.int .i64 c.ga):=ij _ _ (by decide)
 have cS : ae Tryz.prog 69 [.int .i64 3,.agg (kT c.x),.agg (i4A c.y)] (.agg (bg c.s)):=Dj c.x c.y (Eb c.hx)
 have hr:=c.grng
 have cP : ae Tryz.prog 70 [.int .i64 3,.int .i64 c.ga,.sl .no 3 (c.z.map jL)] (ak c.gps):=by
  have h:=wK (c.s 0) c.ga c.z (by rw [c.s0]; omega) (by omega) c.hz
  rw [c.s0] at h
  have e : c.gps = gu 3 c.ga c.z:=by unfold bQ.gps; rw [c.s0]
  rw [e]; exact h
 have cO : ae Tryz.prog 71 [.agg (bg c.s),ak c.gps,.int .i64 c.ga,.int .i64 10,.sl .no 5 (c.v.map jK)] (aM c.gl):=uP c.s c.gps c.ga 10 c.v c.goptH c.hv
 have hb : IntKind.i64.wrap (c.ga + 240) = c.gb:=aq (by omega) (by omega)
 generalize c.gb = b at *
 generalize c.ga = a at *
 generalize c.s = s at *
 generalize c.gps = ps at *
 generalize c.gl = l at *
 refine ag aa Tryz.func42 rfl (by kernel_rfl) af (Nat.le_of_ble_eq_true rfl) ?_
 intro F n' w0 m0 hG hro h1
 repeat' first|refine Q1 ?_|refine Q2 ?_|refine Q3 hG aa qc ?_|refine Q4 hG aa qc ?_|refine Q5 hG aa ?_|refine Q6 hG aa ?_|refine Q7 hG aa ?_|refine Q8 hG aa ?_|refine Q9 rfl ?_|refine QF rfl ?_|refine QC rfl ⟨fun h => ?_,fun h => ?_⟩|((conv => whnf); first|refine anF ?_|refine anT ?_|refine anK ?_|refine Exists.intro _ (And.intro (cA) ?_)|refine Exists.intro _ (And.intro (cS) ?_)|refine Exists.intro _ (And.intro (cP) ?_)|refine Exists.intro _ (And.intro (cO) ?_)|refine And.intro (fun h => ?_) (fun h => ?_)|refine Or.inl ?_)
 all_goals exact Ends.mk (Or.inl rfl) (ac (congrArg (fun z => AV.tup [.agg (bg s),aM l,ak ps,.agg (aK a z)]) hb))
end Go.Proofs
namespace Go.Proofs
open Go Go.AI
def asc (l : List Int) : Prop:=l.Pairwise (· < ·)
theorem zk : ∀ {l m : List Int},asc l → asc m → (∀ x,x ∈ l ↔ x ∈ m) → l = m
 | [],[],_,_,_ => rfl
 | [],y :: m,_,_,h => absurd ((h y).2 List.mem_cons_self) (by simp)
 | x :: l,[],_,_,h => absurd ((h x).1 List.mem_cons_self) (by simp)
 | x :: l,y :: m,hl,hm,h => by
  obtain ⟨hl1,hl2⟩:=List.pairwise_cons.1 hl
  obtain ⟨hm1,hm2⟩:=List.pairwise_cons.1 hm
  have e : x = y:=by
   rcases List.mem_cons.1 ((h x).1 List.mem_cons_self) with h1 | h1
   ·exact h1
   ·rcases List.mem_cons.1 ((h y).2 List.mem_cons_self) with h2 | h2
    ·exact h2.symm
    ·have:=hl1 y h2; have:=hm1 x h1; omega
  subst e
  rw [zk hl2 hm2 fun z => ?_]
  constructor
  ·intro hz
   rcases List.mem_cons.1 ((h z).1 (List.mem_cons_of_mem _ hz)) with h1 | h1
   ·have:=hl1 z hz; omega
   ·exact h1
  ·intro hz
   rcases List.mem_cons.1 ((h z).2 (List.mem_cons_of_mem _ hz)) with h1 | h1
   ·have:=hm1 z hz; omega
   ·exact h1
theorem tp (d : Array Int) : ∀ j : Nat,∃ k,k ≤ j ∧ Lib.keeps d k = true ∧ d[k]! = d[j]!
 | 0 => ⟨0,Nat.le_refl _,by simp [Lib.keeps],rfl⟩
 | j + 1 => by
  by_cases h : d[j + 1]! = d[j]!
  ·obtain ⟨k,h1,h2,h3⟩:=tp d j
   exact ⟨k,by omega,h2,by rw [h3,h]⟩
  ·exact ⟨j + 1,Nat.le_refl _,by simp only [Lib.keeps,Nat.add_sub_cancel,decide_eq_true_eq]; exact .inr h,rfl⟩
theorem um {zs : List Int} {x : Int} : x ∈ Lib.compact zs ↔ x ∈ zs:=by
 unfold Lib.compact Lib.compactUpTo
 simp only [List.mem_map,List.mem_filter,List.mem_range]
 constructor
 ·rintro ⟨j,⟨hj,_⟩,rfl⟩
  simp [hj]
 ·intro h
  obtain ⟨j,hj,rfl⟩:=List.getElem_of_mem h
  obtain ⟨k,h1,h2,h3⟩:=tp zs.toArray j
  exact ⟨k,⟨by omega,h2⟩,by rw [h3]; simp [hj]⟩
theorem wx {zs : List Int} (h : zs.Pairwise (· ≤ ·)) : asc (Lib.compact zs):=by
 have hmono : ∀ i j,i ≤ j → j < zs.length → zs.toArray[i]! ≤ zs.toArray[j]!:=fun i j hij hj => by
  rcases Nat.lt_or_eq_of_le hij with h1 | h1
  ·have:=List.pairwise_iff_getElem.1 h i j (by omega) hj h1
   simpa [hj,show i < zs.length by omega] using this
  ·subst h1; exact Int.le_refl _
 unfold asc Lib.compact Lib.compactUpTo
 rw [List.pairwise_map]
 refine List.Pairwise.imp_of_mem ?_ ((List.pairwise_lt_range (n:=zs.length)).filter (Lib.keeps zs.toArray))
 intro i j hi hj hij
 obtain ⟨_,_⟩:=List.mem_filter.1 hi
 obtain ⟨h1,h2⟩:=List.mem_filter.1 hj
 rw [List.mem_range] at h1
 simp only [Lib.keeps,decide_eq_true_eq] at h2
 rcases h2 with h2 | h2
 ·omega
 ·have h3:=hmono i (j - 1) (by omega) (by omega)
  have h4:=hmono (j - 1) j (by omega) h1
  omega
def oL (l : List Opt) : List Int:=(l.take 8).flatMap fun o => (o.sl.take 6).map (·.p)
def sortI (l : List Int) : List Int:=l.mergeSort fun x y => decide (x ≤ y)
def aC (l : List Opt) : List Int:=Lib.compact (sortI (oL l))
theorem Bu (l : List Int) : (sortI l).Pairwise (· ≤ ·):=by
 have h:=List.pairwise_mergeSort (le:=fun x y : Int => decide (x ≤ y)) (fun a b c h1 h2 => by simp at *; omega) (fun a b => by simp; omega) l
 exact h.imp fun h => by simpa using h
theorem tu (l : List Opt) : asc (aC l):=wx (Bu _)
theorem tn {l : List Opt} {x : Int} : x ∈ aC l ↔ x ∈ oL l:=by
 unfold aC sortI
 rw [um,List.mem_mergeSort]
def iQ (l : List Int) (n : Int) : List Int:=if (l.dropWhile (fun x => decide (x < n))).head? = some n then l else l.takeWhile (fun x => decide (x < n)) ++ n :: l.dropWhile (fun x => decide (x < n))
theorem xR {l : List Int} {n y : Int} (h : (l.dropWhile fun x => decide (x < n)).head? = some y) : ¬ y < n:=by
 have:=List.head?_dropWhile_not (fun x => decide (x < n)) l
 rw [h] at this
 simpa using this
theorem BY {l : List Int} {n x : Int} : x ∈ iQ l n ↔ x ∈ l ∨ x = n:=by
 unfold iQ
 have e:=List.takeWhile_append_dropWhile (p:=fun x => decide (x < n)) (l:=l)
 split
 ·rename_i h
  have hm : n ∈ l:=by
   rw [← e,List.mem_append]
   exact .inr (List.mem_of_mem_head? (by rw [h]; rfl))
  constructor
  ·exact .inl
  ·rintro (h | h)
   ·exact h
   ·rw [h]; exact hm
 ·have : x ∈ l ↔ x ∈ l.takeWhile (fun x => decide (x < n)) ∨ x ∈ l.dropWhile (fun x => decide (x < n)):=by
   rw [← List.mem_append,e]
  rw [this]
  simp only [List.mem_append,List.mem_cons]
  constructor
  ·rintro (h | h | h)
   ·exact .inl (.inl h)
   ·exact .inr h
   ·exact .inl (.inr h)
  ·rintro ((h | h) | h)
   ·exact .inl h
   ·exact .inr (.inr h)
   ·exact .inr (.inl h)
theorem CD {l : List Int} {n : Int} (hl : asc l) : asc (iQ l n):=by
 unfold iQ
 split
 ·exact hl
 ·rename_i hne
  have e:=List.takeWhile_append_dropWhile (p:=fun x => decide (x < n)) (l:=l)
  have hl2 : asc (l.takeWhile (fun x => decide (x < n)) ++ l.dropWhile (fun x => decide (x < n))):=by rw [e]; exact hl
  obtain ⟨h1,h2,h3⟩:=List.pairwise_append.1 hl2
  have ht : ∀ x ∈ l.takeWhile (fun x => decide (x < n)),x < n:=fun x hx => by
   have:=List.all_eq_true.1 (List.all_takeWhile (l:=l) (p:=fun x => decide (x < n))) x hx
   simpa using this
  have hd : ∀ y ∈ l.dropWhile (fun x => decide (x < n)),n < y:=by
   cases hdw : l.dropWhile (fun x => decide (x < n)) with
   | nil => simp
   | cons z r =>
    rw [hdw] at hne h2
    have hz : ¬ z < n:=xR (l:=l) (n:=n) (y:=z) (by rw [hdw]; rfl)
    have hz2 : z ≠ n:=fun e => hne (by simp [e])
    intro y hy
    rcases List.mem_cons.1 hy with h | h
    ·omega
    ·have:=(List.pairwise_cons.1 h2).1 y h; omega
  refine List.pairwise_append.2 ⟨h1,List.pairwise_cons.2 ⟨hd,h2⟩,fun x hx y hy => ?_⟩
  rcases List.mem_cons.1 hy with h | h
  ·rw [h]; exact ht x hx
  ·have:=ht x hx; have:=hd y h; omega
theorem rI : ∀ (r l : List Int),asc l → asc (r.foldl iQ l) ∧ ∀ x,x ∈ r.foldl iQ l ↔ x ∈ l ∨ x ∈ r
 | [],l,hl => ⟨hl,fun x => by simp⟩
 | n :: r,l,hl => by
  obtain ⟨h1,h2⟩:=rI r (iQ l n) (CD hl)
  refine ⟨h1,fun x => ?_⟩
  rw [List.foldl_cons,h2,BY,List.mem_cons,or_assoc]
theorem oK (l : List Opt) : (oL l).foldl iQ [] = aC l:=by
 obtain ⟨h1,h2⟩:=rI (oL l) [] List.Pairwise.nil
 exact zk h1 (tu l) fun x => by rw [h2,tn]; simp
def uB (b i : Nat) : Bool:=decide (b / 2 ^ i % 2 = 1)
def fZ (f : List Int) (b i : Nat) : List Int:=(List.range i).filterMap fun j => if uB b j then f[j]? else none
def iH (f : List Int) (b : Nat) : List Int:=fZ f b f.length
theorem qO {f : List Int} {b i : Nat} (h : i < f.length) : fZ f b (i + 1) = fZ f b i ++ (if uB b i then [f.getD i 0] else []):=by
 unfold fZ
 rw [List.range_succ,List.filterMap_append]
 congr 1
 simp only [List.filterMap_cons,List.filterMap_nil]
 split
 ·rename_i h1
  split at h1
  ·simp [List.getElem?_eq_getElem h] at h1
  ·rename_i h2; rw [if_neg (by simpa using h2)]
 ·rename_i h1
  split at h1
  ·rename_i h2
   rw [if_pos (by simpa using h2),List.getD_eq_getElem?_getD,h1]; rfl
  ·cases h1
theorem iN (f : List Int) (b i : Nat) : (fZ f b i).length ≤ i:=by
 unfold fZ
 exact Nat.le_trans (List.length_filterMap_le _ _) (by simp)
def ay (l : List Int) (i : Nat) : Int:=l.getD i 0
def j9 (n : Nat) (l : List Int) (i : Nat) : Bool:=decide (0 ≤ ay l i) && decide (ay l i < n) && (decide (i = 0) || decide (ay l (i - 1) < ay l i))
def gq (ps : List al) (l : List Int) : Bool:=(List.range l.length).all (j9 ps.length l) && bp ps
def aW (ps : List al) (p : Int) : Int:=(aA ps p.toNat).ca.tdiv 1440
def gA (l : List Int) (d : Int) : Nat:=(l.filter fun x => decide (x = d)).length
def yX (ds : List Int) : Nat:=ds.foldl (fun n d => max n (gA ds d)) 0
def rd (ps : List al) (l : List Int) : Nat:=yX (l.map (aW ps))
def ka (k : Int) : Bool:=decide (0 ≤ k) && decide (k ≤ 3)
def ej (ps : List al) (l : List Int) (k : Int) : Bool:=ka k && gq ps l && decide ((rd ps l : Int) ≤ k)
def dx (f : List Int) (ps : List al) (k : Int) (n : Nat) : List (List Int):=((List.range n).map (iH f)).filter fun l => ej ps l k
def cm (f : List Int) (ps : List al) (k : Int) : List (List Int):=dx f ps k (2 ^ f.length)
theorem jX (f : List Int) (ps : List al) (k : Int) (n : Nat) : dx f ps k (n + 1) = dx f ps k n ++ (if ej ps (iH f n) k then [iH f n] else []):=by
 unfold dx
 rw [List.range_succ,List.map_append,List.filter_append]
 congr 1
 simp only [List.map_cons,List.map_nil,List.filter_cons,List.filter_nil]
def ix (ds : List Int) : Nat → Nat
 | 0 => 0
 | i + 1 => max (ix ds i) (gA (ds.take (i + 1)) (ds.getD i 0))
theorem mT (ds : List Int) (i : Nat) (d : Int) : gA (ds.take i) d ≤ gA ds d:=by
 unfold gA
 exact (((List.take_sublist i ds).filter _).length_le)
theorem jB {α : Type} (f : α → Nat) : ∀ (l : List α) (n b : Nat),n ≤ b → (∀ x ∈ l,f x ≤ b) → l.foldl (fun n d => max n (f d)) n ≤ b
 | [],n,b,h,_ => h
 | x :: l,n,b,h,hx => jB f l _ b (Nat.max_le.2 ⟨h,hx x List.mem_cons_self⟩) fun y hy => hx y (List.mem_cons_of_mem _ hy)
theorem ld {α : Type} (f : α → Nat) : ∀ (l : List α) (n : Nat),n ≤ l.foldl (fun n d => max n (f d)) n
 | [],n => Nat.le_refl _
 | x :: l,n => Nat.le_trans (Nat.le_max_left _ _) (ld f l _)
theorem mH {α : Type} (f : α → Nat) : ∀ (l : List α) (n : Nat) (x : α),x ∈ l → f x ≤ l.foldl (fun n d => max n (f d)) n
 | y :: l,n,x,h => by
  rcases List.mem_cons.1 h with h | h
  ·subst h; exact Nat.le_trans (Nat.le_max_right _ _) (ld f l _)
  ·exact mH f l _ x h
theorem rf (ds : List Int) : ∀ i,i ≤ ds.length → ix ds i ≤ yX ds
 | 0,_ => Nat.zero_le _
 | i + 1,h => by
  refine Nat.max_le.2 ⟨rf ds i (by omega),Nat.le_trans (mT _ _ _) ?_⟩
  refine mH (gA ds) ds 0 _ ?_
  rw [List.getD_eq_getElem?_getD,List.getElem?_eq_getElem (show i < ds.length by omega)]
  exact List.getElem_mem _
theorem tB {ds : List Int} {d : Int} : ∀ i,i ≤ ds.length → gA (ds.take i) d ≤ ix ds i
 | 0,_ => by simp [gA]
 | i + 1,h => by
  have hi : i < ds.length:=by omega
  have e : ds.take (i + 1) = ds.take i ++ [ds.getD i 0]:=by
   rw [List.take_add_one,List.getD_eq_getElem?_getD,List.getElem?_eq_getElem hi]; rfl
  by_cases hd : ds.getD i 0 = d
  ·show _ ≤ max _ _
   rw [hd]; exact Nat.le_max_right _ _
  ·have : gA (ds.take (i + 1)) d = gA (ds.take i) d:=by
    have e2 : List.filter (fun x => decide (x = d)) [ds.getD i 0] = []:=by
     rw [List.filter_cons_of_neg (by simpa using hd)]; rfl
    rw [e]; unfold gA; rw [List.filter_append,e2,List.append_nil]
   rw [this]
   exact Nat.le_trans (tB i (by omega)) (Nat.le_max_left _ _)
theorem xE (ds : List Int) : ix ds ds.length = yX ds:=by
 refine Nat.le_antisymm (rf ds _ (Nat.le_refl _)) ?_
 refine jB _ _ _ _ (Nat.zero_le _) fun x _ => ?_
 have:=tB (ds:=ds) (d:=x) ds.length (Nat.le_refl _)
 rwa [List.take_length] at this
end Go.Proofs
namespace Go.Proofs
open Go Go.Shelf
def sP : Go.Shelf.Ren:=⟨fun | 189 => 114 | 125 => 190 | 257 => 189 | 128 => 250 | 129 => 251 | 294 => 241 | 295 => 242 | 296 => 243 | 297 => 244 | 298 => 245 | 299 => 246 | 216 => 247 | 300 => 248 | 301 => 249 | 328 => 291 | 329 => 292 | 330 => 293 | 331 => 294 | 332 => 295 | 215 => 167 | 343 => 312 | n => n,fun | 28 => 79 | 3 => 3 | 46 => 254 | 0 => 0 | 51 => 299 | 53 => 301 | 4 => 4 | 183 => 293 | 182 => 292 | 131 => 118 | 5 => 5 | 9 => 9 | 218 => 325 | 222 => 329 | 228 => 346 | 229 => 347 | n => n,fun | n => n⟩
theorem tS : Lays.n189 Tryz.prog sP where
 mixed:=by kernel_rfl
 f125:=Tryz.func190.trans (congrArg some (by kernel_rfl))
 f128:=Tryz.func250.trans (congrArg some (by kernel_rfl))
 f129:=Tryz.func251.trans (congrArg some (by kernel_rfl))
 f189:=Tryz.func114.trans (congrArg some (by kernel_rfl))
 f215:=Tryz.func167.trans (congrArg some (by kernel_rfl))
 f216:=Tryz.func247.trans (congrArg some (by kernel_rfl))
 f257:=Tryz.func189.trans (congrArg some (by kernel_rfl))
 f294:=Tryz.func241.trans (congrArg some (by kernel_rfl))
 f295:=Tryz.func242.trans (congrArg some (by kernel_rfl))
 f296:=Tryz.func243.trans (congrArg some (by kernel_rfl))
 f297:=Tryz.func244.trans (congrArg some (by kernel_rfl))
 f298:=Tryz.func245.trans (congrArg some (by kernel_rfl))
 f299:=Tryz.func246.trans (congrArg some (by kernel_rfl))
 f300:=Tryz.func248.trans (congrArg some (by kernel_rfl))
 f301:=Tryz.func249.trans (congrArg some (by kernel_rfl))
 f328:=Tryz.func291.trans (congrArg some (by kernel_rfl))
 f329:=Tryz.func292.trans (congrArg some (by kernel_rfl))
 f330:=Tryz.func293.trans (congrArg some (by kernel_rfl))
 f331:=Tryz.func294.trans (congrArg some (by kernel_rfl))
 f332:=Tryz.func295.trans (congrArg some (by kernel_rfl))
 f343:=Tryz.func312.trans (congrArg some (by kernel_rfl))
 t0:=Tryz.underlying0
 a0:=Tryz.isAgg0
 z0:=Tryz.sizeOf0
 v0:=Tryz.zeroValue0
 t3:=Tryz.underlying3
 a3:=Tryz.isAgg3
 z3:=Tryz.sizeOf3
 v3:=Tryz.zeroValue3
 t4:=Tryz.underlying4
 a4:=Tryz.isAgg4
 z4:=Tryz.sizeOf4
 v4:=Tryz.zeroValue4
 t5:=Tryz.underlying5
 a5:=Tryz.isAgg5
 z5:=Tryz.sizeOf5
 v5:=Tryz.zeroValue5
 t9:=Tryz.underlying9
 a9:=Tryz.isAgg9
 z9:=Tryz.sizeOf9
 v9:=Tryz.zeroValue9
 t28:=Tryz.underlying79
 a28:=Tryz.isAgg79
 z28:=Tryz.sizeOf79
 v28:=Tryz.zeroValue79
 t46:=Tryz.underlying254
 a46:=Tryz.isAgg254
 z46:=Tryz.sizeOf254
 v46:=Tryz.zeroValue254
 t51:=Tryz.underlying299
 a51:=Tryz.isAgg299
 z51:=Tryz.sizeOf299
 v51:=Tryz.zeroValue299
 t53:=Tryz.underlying301
 a53:=Tryz.isAgg301
 z53:=Tryz.sizeOf301
 v53:=Tryz.zeroValue301
 t131:=Tryz.underlying118
 a131:=Tryz.isAgg118
 z131:=Tryz.sizeOf118
 v131:=Tryz.zeroValue118
 t182:=Tryz.underlying292
 a182:=Tryz.isAgg292
 z182:=Tryz.sizeOf292
 v182:=Tryz.zeroValue292
 t183:=Tryz.underlying293
 a183:=Tryz.isAgg293
 z183:=Tryz.sizeOf293
 v183:=Tryz.zeroValue293
 t218:=Tryz.underlying325
 a218:=Tryz.isAgg325
 z218:=Tryz.sizeOf325
 v218:=Tryz.zeroValue325
 t222:=Tryz.underlying329
 a222:=Tryz.isAgg329
 z222:=Tryz.sizeOf329
 v222:=Tryz.zeroValue329
 t228:=Tryz.underlying346
 a228:=Tryz.isAgg346
 z228:=Tryz.sizeOf346
 v228:=Tryz.zeroValue346
 t229:=Tryz.underlying347
 a229:=Tryz.isAgg347
 z229:=Tryz.sizeOf347
 v229:=Tryz.zeroValue347
end Go.Proofs
namespace Go.Proofs
open Go Go.Shelf
def sS : Go.Shelf.Ren:=⟨fun | 20 => 115 | n => n,fun | 22 => 79 | 3 => 3 | 4 => 4 | 0 => 0 | n => n,fun | n => n⟩
theorem tU : Lays2.n20 Tryz.prog sS where
 mixed:=by kernel_rfl
 f20:=Tryz.func115.trans (congrArg some (by kernel_rfl))
 t0:=Tryz.underlying0
 a0:=Tryz.isAgg0
 z0:=Tryz.sizeOf0
 v0:=Tryz.zeroValue0
 t3:=Tryz.underlying3
 a3:=Tryz.isAgg3
 z3:=Tryz.sizeOf3
 v3:=Tryz.zeroValue3
 t4:=Tryz.underlying4
 a4:=Tryz.isAgg4
 z4:=Tryz.sizeOf4
 v4:=Tryz.zeroValue4
 t22:=Tryz.underlying79
 a22:=Tryz.isAgg79
 z22:=Tryz.sizeOf79
 v22:=Tryz.zeroValue79
 i3:=by kernel_rfl
end Go.Proofs
namespace Go.Proofs
open Go Go.AI
set_option maxRecDepth 10000
theorem ea {l : List Int} {i : Nat} (h : i < l.length) : (l.map fun h => [AV.int .i64 h])[(i : Int).toNat]? = some [.int .i64 (ay l i)]:=by simp [ay,List.getElem?_eq_getElem h]
theorem m9 (p : Nat → Bool) (n : Nat) : (List.range (n + 1)).all p = ((List.range n).all p && p n):=by rw [List.range_succ,List.all_append]; simp
theorem vh {ps : List al} {l : List Int} {i : Nat} (hi : i < l.length) (h : j9 ps.length l i = false) : gq ps l = false:=by
 unfold gq
 rw [Bool.and_eq_false_iff]
 refine .inl ?_
 rw [List.all_eq_false]
 exact ⟨i,List.mem_range.2 hi,by rw [h]; simp⟩
theorem uU (k : Int) : ae Tryz.prog 252 [.int .i64 k] (.bool (ka k)):=by
 refine ag aa Tryz.func252 rfl (by kernel_rfl) af (Nat.le_of_ble_eq_true rfl) ?_
 intro F n' w0 m0 hG hro h1
 repeat' first|refine Q1 ?_|refine Q2 ?_|refine Q3 hG aa nm ?_|refine Q4 hG aa nm ?_|refine Q5 hG aa ?_|refine Q6 hG aa ?_|refine Q7 hG aa ?_|refine Q8 hG aa ?_|refine Q9 rfl ?_|refine QF rfl ?_|refine QC rfl ⟨fun h => ?_,fun h => ?_⟩|((conv => whnf); first|refine anF ?_|refine anT ?_|refine anK ?_|refine And.intro (fun h => ?_) (fun h => ?_)|refine Or.inl ?_)
 all_goals refine Ends.mk (Or.inl rfl) (ac (congrArg AV.bool ?_))
 all_goals (clear hG; grind [ka])
set_option maxHeartbeats 4000000 in
theorem sq (ps : List al) (l : List Int) (hl : l.length ≤ 1000000) (hps : ps.length ≤ 1000000) : ae Tryz.prog 253 [ak ps,au l] (.bool (gq ps l)):=by
 have hpl : ((ps.map aG).length : Int) = (ps.length : Int):=by rw [List.length_map]
 refine ag aa Tryz.func253 rfl (by kernel_rfl) af (Nat.le_of_ble_eq_true rfl) ?_
 intro F n' w0 m0 hG hro h1
 repeat' first|refine Q1 ?_|refine Q2 ?_|refine Q3 hG aa ew ?_|refine Q4 hG aa ew ?_|refine Q5 hG aa ?_|refine Q6 hG aa ?_|refine Q7 hG aa ?_|refine Q8 hG aa ?_|refine Q9 rfl ?_|refine QF rfl ?_|refine QC rfl ⟨fun h => ?_,fun h => ?_⟩|((conv => whnf); first|refine anF ?_|refine anT ?_|refine anK ?_|refine And.intro (fun h => ?_) (fun h => ?_)|refine Or.inl ?_)
 refine ar (X:=Nat) (fun x => ⟨[(9,.int .i64 x),(8,.int .i64 (l.map fun h => [AV.int .i64 h]).length),(7,au l),(1,au l),(0,ak ps)],[]⟩) (fun x => x ≤ l.length ∧ (List.range x).all (j9 ps.length l) = true) (fun x => l.length - x) 0 ⟨Nat.zero_le _,rfl⟩ (ah ?_ ?_) (fun x hx => ?_)
 ·repeat' (first | exact trivial | refine And.intro rfl ?_)
 ·repeat' (first | exact trivial | refine And.intro rfl ?_)
 ·rename Nat => i
  obtain ⟨hi,ht⟩:=hx
  by_cases hlt_i : i < l.length
  ·have bbk : decide ((i : Int) < ((l.map fun h => [AV.int .i64 h]).length : Int)) = false → False:=fun h => by have:=of_decide_eq_false h; simp at this; omega
   have hx:=ea hlt_i
   have hw : (i : Int) > 0 → IntKind.i64.wrap ((i : Int) - 1) = ((i - 1 : Nat) : Int):=fun h => (aq (by omega) (by omega)).trans (by omega)
   have hp0 : decide ((i : Int) > 0) = true → 0 ≤ IntKind.i64.wrap ((i : Int) - 1):=fun h => by rw [hw (of_decide_eq_true h)]; omega
   have hp : decide ((i : Int) > 0) = true → (l.map fun h => [AV.int .i64 h])[(IntKind.i64.wrap ((i : Int) - 1)).toNat]? = some [.int .i64 (ay l (i - 1))]:=fun h => by rw [hw (of_decide_eq_true h)]; exact ea (by omega)
   have hok : j9 ps.length l i = (decide (0 ≤ ay l i) && decide (ay l i < ps.length) && (decide (i = 0) || decide (ay l (i - 1) < ay l i))):=rfl
   generalize ay l (i - 1) = v at hp hok
   generalize ay l i = u at hx hok
   repeat' first|exact (bbk (by assumption)).elim|refine Q1 ?_|refine Q2 ?_|refine Q3 hG aa ew ?_|refine Q4 hG aa ew ?_|refine Q5 hG aa ?_|refine Q6 hG aa ?_|refine Q7 hG aa ?_|refine Q8 hG aa ?_|refine Q9 rfl ?_|refine QF rfl ?_|refine QC rfl ⟨fun h => ?_,fun h => ?_⟩|((conv => whnf); first|refine anF ?_|refine anT ?_|refine anK ?_|refine And.intro (Int.natCast_nonneg i) (Exists.intro _ (And.intro hx ?_))|refine And.intro (hp0 (by assumption)) (Exists.intro _ (And.intro (hp (by assumption)) ?_))|refine And.intro (fun h => ?_) (fun h => ?_)|refine Or.inl ?_)
   all_goals first
    |(refine Ends.mk (Or.inl rfl) (ac (congrArg AV.bool ?_))
      exact (vh hlt_i (by rw [hok]; clear hG; grind)).symm)
    | skip
   all_goals (refine Exists.intro (i + 1) (And.intro ?_ (And.intro (by omega) (ah ?_ ?_))))
   all_goals first
    |(refine And.intro (congrArg some (ap (by omega))) ?_
      repeat' (first | exact trivial | refine And.intro rfl ?_))
    |((repeat' (first | exact trivial | refine And.intro rfl ?_)); done)
    |(exact ⟨hlt_i,by rw [m9,ht,hok]; clear hG; grind⟩)
  ·have bbk : decide ((i : Int) < ((l.map fun h => [AV.int .i64 h]).length : Int)) = true → False:=fun h => by have:=of_decide_eq_true h; simp at this; omega
   have he : i = l.length:=by omega
   rw [he] at ht
   repeat' first|exact (bbk (by assumption)).elim|refine Q1 ?_|refine Q2 ?_|refine Q3 hG aa ew ?_|refine Q4 hG aa ew ?_|refine Q5 hG aa ?_|refine Q6 hG aa ?_|refine Q7 hG aa ?_|refine Q8 hG aa ?_|refine Q9 rfl ?_|refine QF rfl ?_|refine QC rfl ⟨fun h => ?_,fun h => ?_⟩|((conv => whnf); first|refine anF ?_|refine anT ?_|refine anK ?_|refine Exists.intro _ (And.intro (eV ps hps) ?_)|refine And.intro (fun h => ?_) (fun h => ?_)|refine Or.inl ?_)
   exact Ends.mk (Or.inl rfl) (ac (congrArg AV.bool (by rw [gq,ht,Bool.true_and])))
theorem qW {ps : List al} (h : bp ps = true) {i : Nat} (hi : i < ps.length) : 0 ≤ (aA ps i).ca ∧ (aA ps i).ca ≤ 1000001:=by
 have h2 : bX (aA ps i) = true:=by
  simp only [bp,Bool.and_eq_true,Bool.not_eq_true',List.any_eq_false] at h
  have:=h.1.2 (aA ps i) (by unfold aA; rw [List.getD_eq_getElem?_getD,List.getElem?_eq_getElem hi]; exact List.getElem_mem hi)
  simpa using this
 simp only [bX,Bool.and_eq_true,decide_eq_true_eq] at h2
 omega
def jF (ds : List Int) (i : Nat) : List (Int × Int):=(ds.take i).foldl (fun t d => kP d (ir t d + 1) t) []
theorem kC (x y z : Int) : ∀ l : List (Int × Int),ir (kP x y l) z = if x = z then y else ir l z
 | [] => by simp [kP,ir]
 | p :: r => by
  by_cases h : p.1 = x
  ·simp only [kP,if_pos h,ir]
   by_cases h2 : x = z
   ·rw [if_pos h2,if_pos h2]
   ·rw [if_neg h2,if_neg h2,if_neg (by rw [h]; exact h2)]
  ·simp only [kP,if_neg h,ir,kC x y z r]
   by_cases h2 : x = z
   ·subst h2; simp [h]
   ·simp [h2]
theorem eW {ds : List Int} {i : Nat} (h : i < ds.length) : ds.take (i + 1) = ds.take i ++ [ds.getD i 0]:=by
 rw [List.take_add_one,List.getD_eq_getElem?_getD,List.getElem?_eq_getElem h]; rfl
theorem pG {ds : List Int} {i : Nat} (h : i < ds.length) : jF ds (i + 1) = kP (ds.getD i 0) (ir (jF ds i) (ds.getD i 0) + 1) (jF ds i):=by
 unfold jF; rw [eW h,List.foldl_append]; rfl
theorem jE (ds : List Int) (z : Int) : ∀ i,i ≤ ds.length → ir (jF ds i) z = (gA (ds.take i) z : Int)
 | 0,_ => by simp [jF,gA,ir]
 | i + 1,h => by
  rw [pG h,kC,jE ds z i (by omega),jE ds _ i (by omega),eW h]
  unfold gA
  rw [List.filter_append,List.length_append]
  by_cases hz : ds.getD i 0 = z
  ·have e2 : List.filter (fun x => decide (x = z)) [ds.getD i 0] = [ds.getD i 0]:=by rw [List.filter_cons_of_pos (by simpa using hz)]; rfl
   rw [if_pos hz,hz] at *; rw [e2]; simp
  ·have e2 : List.filter (fun x => decide (x = z)) [ds.getD i 0] = []:=by rw [List.filter_cons_of_neg (by simpa using hz)]; rfl
   rw [if_neg hz,e2]; simp
theorem mS (l : List Int) (d : Int) : gA l d ≤ l.length:=List.length_filter_le _ _
theorem lU : ∀ t,t = 312 → uW Tryz.prog t:=by
 rintro _ rfl
 exact ⟨_,_,rfl,rfl,fun w => rfl⟩
theorem qu {ps : List al} {l : List Int} (h : gq ps l = true) {i : Nat} (hi : i < l.length) : 0 ≤ ay l i ∧ ay l i < ps.length:=by
 have h:=(Bool.and_eq_true_iff.1 h).1
 rw [List.all_eq_true] at h
 have:=h i (List.mem_range.2 hi)
 simp only [j9,Bool.and_eq_true,decide_eq_true_eq] at this
 exact this.1
set_option maxHeartbeats 4000000 in
theorem AJ (ps : List al) (l : List Int) (hl : l.length ≤ 1000000) (hset : gq ps l = true) : ae Tryz.prog 254 [ak ps,au l] (.int .i64 (rd ps l)):=by
 have hps2 : bp ps = true:=by simp only [gq,Bool.and_eq_true] at hset; exact hset.2
 refine ag aa Tryz.func254 rfl (by kernel_rfl) af (Nat.le_of_ble_eq_true rfl) ?_
 intro F n' w0 m0 hG hro h1
 repeat' first|refine Q1 ?_|refine Q2 ?_|refine Q3 hG aa eu ?_|refine Q4 hG aa eu ?_|refine Q5 hG aa ?_|refine Q6 hG aa ?_|refine Q7 hG aa ?_|refine Q8 hG aa ?_|refine Q9 rfl ?_|refine QF rfl ?_|refine QC rfl ⟨fun h => ?_,fun h => ?_⟩|((conv => whnf); first|refine anF ?_|refine anT ?_|refine anK ?_|refine fun b => ?_|refine And.intro (fun h => ?_) (fun h => ?_)|refine Or.inl ?_)
 refine ar (X:=Nat) (fun x => ⟨[(12,.int .i64 x),(4,.int .i64 (ix (l.map (aW ps)) x)),(xk 9,.me .ents 9 b (gT (jF (l.map (aW ps)) x))),(11,.int .i64 (l.map fun h => [AV.int .i64 h]).length),(10,au l),(5,.lit (.map (some b))),(1,au l),(0,ak ps)],[]⟩) (fun x => x ≤ l.length) (fun x => l.length - x) 0 (Nat.zero_le _) (ah ?_ ?_) (fun x hx => ?_)
 ·repeat' (first | exact trivial | refine And.intro rfl ?_)
 ·repeat' (first | exact trivial | refine And.intro rfl ?_)
 ·rename Nat => i
  have hi:=hx
  by_cases hlt_i : i < l.length
  ·have bbk : decide ((i : Int) < ((l.map fun h => [AV.int .i64 h]).length : Int)) = false → False:=fun h => by have:=of_decide_eq_false h; simp at this; omega
   have hx:=ea hlt_i
   obtain ⟨h0,h1⟩:=qu hset hlt_i
   have hy:=cn (l:=ps) (i:=(ay l i).toNat) (by omega)
   have hday : aW ps (ay l i) = (aA ps (ay l i).toNat).ca.tdiv 1440:=rfl
   have hdi : (l.map (aW ps)).getD i 0 = aW ps (ay l i):=by simp [ay,List.getElem?_eq_getElem hlt_i]
   have hdl : i < (l.map (aW ps)).length:=by simpa using hlt_i
   have hs:=pG hdl
   have hg:=jE (l.map (aW ps)) (aW ps (ay l i)) i (by omega)
   have hg2:=jE (l.map (aW ps)) (aW ps (ay l i)) (i + 1) (by omega)
   have hm : ix (l.map (aW ps)) (i + 1) = max (ix (l.map (aW ps)) i) (gA ((l.map (aW ps)).take (i + 1)) ((l.map (aW ps)).getD i 0)):=rfl
   have hcl:=mS ((l.map (aW ps)).take i) (aW ps (ay l i))
   rw [List.length_take] at hcl
   rw [hdi] at hs hm
   have hwd : IntKind.i64.wrap ((aA ps (ay l i).toNat).ca.tdiv 1440) = aW ps (ay l i):=by
    rw [hday]; have h3:=qW hps2 (i:=(ay l i).toNat) (by omega)
    rw [Int.tdiv_eq_ediv_of_nonneg h3.1]
    exact aq (by omega) (by omega)
   have hw1 : IntKind.i64.wrap (ir (jF (l.map (aW ps)) i) (aW ps (ay l i)) + 1) = ir (jF (l.map (aW ps)) i) (aW ps (ay l i)) + 1:=aq (by omega) (by omega)
   generalize aA ps (ay l i).toNat = p at hy hwd
   generalize ay l i = u at *
   repeat' first|exact (bbk (by assumption)).elim|refine Q1 ?_|refine Q2 ?_|refine Q3 hG aa eu ?_|refine SPB.regM hG aa (M:=fun t => t = 312) lU eu (by kernel_rfl) ?_|refine Q5 hG aa ?_|refine Q6 hG aa ?_|refine Q7 hG aa ?_|refine Q8 hG aa ?_|refine Q9 rfl ?_|refine QF rfl ?_|refine QC rfl ⟨fun h => ?_,fun h => ?_⟩|((conv => whnf); first|refine anF ?_|refine anT ?_|refine anK ?_|refine And.intro (Int.natCast_nonneg i) (Exists.intro _ (And.intro hx ?_))|refine And.intro h0 (Exists.intro _ (And.intro hy ?_))|refine And.intro (of_decide_eq_true (Eq.refl true)) ?_|refine Exists.intro 9 (Exists.intro _ (And.intro rfl ?_))|refine And.intro (fun h => ?_) (fun h => ?_)|refine Or.inl ?_)
   conv => whnf
   rw [hs,kC,if_pos rfl] at hg2
   refine Exists.intro (i + 1) (And.intro hlt_i (And.intro (by omega) (ah ?_ ?_)))
   ·refine And.intro (congrArg some (ap (by omega))) (And.intro (congrArg (fun z => some (AV.int .i64 z)) ?_) (And.intro (congrArg (fun z => some (AV.me .ents 9 b (gT z))) ?_) ?_))
    ·rw [hwd,hw1,kC,if_pos rfl,hm,hg2]
     show max _ _ = _
     omega
    ·rw [hwd,hw1]; exact hs.symm
    ·repeat' (first | exact trivial | refine And.intro rfl ?_)
   ·repeat' (first | exact trivial | refine And.intro rfl ?_)
  ·have bbk : decide ((i : Int) < ((l.map fun h => [AV.int .i64 h]).length : Int)) = true → False:=fun h => by have:=of_decide_eq_true h; simp at this; omega
   have he : i = (l.map (aW ps)).length:=by rw [List.length_map]; omega
   have hr : ix (l.map (aW ps)) i = rd ps l:=by rw [he]; exact xE _
   rw [hr]
   repeat' first|exact (bbk (by assumption)).elim|refine Q1 ?_|refine Q2 ?_|refine Q3 hG aa eu ?_|refine Q4 hG aa eu ?_|refine Q5 hG aa ?_|refine Q6 hG aa ?_|refine Q7 hG aa ?_|refine Q8 hG aa ?_|refine Q9 rfl ?_|refine QF rfl ?_|refine QC rfl ⟨fun h => ?_,fun h => ?_⟩|((conv => whnf); first|refine anF ?_|refine anT ?_|refine anK ?_|refine And.intro (fun h => ?_) (fun h => ?_)|refine Or.inl ?_)
   exact Ends.mk (Or.inl rfl) (ac rfl)
end Go.Proofs
namespace Go.Proofs
open Go Go.AI
set_option maxRecDepth 10000
def inP (l : List Int) (x : Int) : Bool:=l.any fun y => x == y
theorem qi (l : List Int) (x : Int) (hl : l.length ≤ 1000000) : ae Tryz.prog 196 [au l,.int .i64 x] (.int .i64 (bV (fun y => x == y) l 0)):=by
 refine ag aa Tryz.func196 rfl (by kernel_rfl) af (Nat.le_of_ble_eq_true rfl) ?_
 intro F n' w0 m0 hG hro h1
 repeat' first|refine Q1 ?_|refine Q2 ?_|refine Q3 hG aa eE ?_|refine Q4 hG aa eE ?_|refine Q5 hG aa ?_|refine Q6 hG aa ?_|refine Q7 hG aa ?_|refine Q8 hG aa ?_|refine Q9 rfl ?_|refine QF rfl ?_|refine QC rfl ⟨fun h => ?_,fun h => ?_⟩|((conv => whnf); first|refine anF ?_|refine anT ?_|refine anK ?_|refine And.intro (fun h => ?_) (fun h => ?_)|refine Or.inl ?_)
 refine ar (X:=Nat) (fun i => ⟨[(8,.int .i64 i),(7,.int .i64 (l.map fun h => [AV.int .i64 h]).length),(1,.int .i64 x),(0,au l)],[]⟩) (fun i => i ≤ l.length ∧ bV (fun y => x == y) (l.drop i) i = bV (fun y => x == y) l 0) (fun j => l.length - j) 0 ⟨Nat.zero_le _,by simp⟩ (ah ?_ ?_) (fun i hx => ?_)
 ·repeat' (first | exact trivial | refine And.intro rfl ?_)
 ·repeat' (first | exact trivial | refine And.intro rfl ?_)
 ·obtain ⟨hi,ht⟩:=hx
  by_cases hlt_i : i < l.length
  ·have bbk : decide ((i : Int) < ((l.map fun h => [AV.int .i64 h]).length : Int)) = false → False:=fun h => by have:=of_decide_eq_false h; simp at this; omega
   have hx:=ea hlt_i
   have hst:=aT (p:=fun y => x == y) (d:=0) (j:=i) hlt_i
   have hst : bV (fun y => x == y) (l.drop i) i = if (x == ay l i) = true then (i : Int) else bV (fun y => x == y) (l.drop (i + 1)) (i + 1):=hst
   generalize ay l i = u at hx hst
   repeat' first|exact (bbk (by assumption)).elim|refine Q1 ?_|refine Q2 ?_|refine Q3 hG aa eE ?_|refine Q4 hG aa eE ?_|refine Q5 hG aa ?_|refine Q6 hG aa ?_|refine Q7 hG aa ?_|refine Q8 hG aa ?_|refine Q9 rfl ?_|refine QF rfl ?_|refine QC rfl ⟨fun h => ?_,fun h => ?_⟩|((conv => whnf); first|refine anF ?_|refine anT ?_|refine anK ?_|refine And.intro (Int.natCast_nonneg i) (Exists.intro _ (And.intro hx ?_))|refine And.intro (fun h => ?_) (fun h => ?_)|refine Or.inl ?_)
   all_goals first
    |(refine Ends.mk (Or.inl rfl) (ac (congrArg (AV.int .i64) ?_))
      rw [← ht,hst,if_pos (by assumption)])
    | skip
   all_goals (refine Exists.intro (i + 1) (And.intro ?_ (And.intro (by omega) (ah ?_ ?_))))
   all_goals first
    |(refine And.intro (congrArg some (ap (by omega))) ?_
      repeat' (first | exact trivial | refine And.intro rfl ?_))
    |((repeat' (first | exact trivial | refine And.intro rfl ?_)); done)
    |(exact ⟨hlt_i,by rw [← ht,hst,if_neg (fun h => tf h (by assumption))]⟩)
  ·have bbk : decide ((i : Int) < ((l.map fun h => [AV.int .i64 h]).length : Int)) = true → False:=fun h => by have:=of_decide_eq_true h; simp at this; omega
   have he : i = l.length:=by omega
   rw [he,List.drop_length] at ht
   repeat' first|exact (bbk (by assumption)).elim|refine Q1 ?_|refine Q2 ?_|refine Q3 hG aa eE ?_|refine Q4 hG aa eE ?_|refine Q5 hG aa ?_|refine Q6 hG aa ?_|refine Q7 hG aa ?_|refine Q8 hG aa ?_|refine Q9 rfl ?_|refine QF rfl ?_|refine QC rfl ⟨fun h => ?_,fun h => ?_⟩|((conv => whnf); first|refine anF ?_|refine anT ?_|refine anK ?_|refine And.intro (fun h => ?_) (fun h => ?_)|refine Or.inl ?_)
   exact Ends.mk (Or.inl rfl) (ac (congrArg (AV.int .i64) ht))
theorem ko (l : List Int) (x : Int) (hl : l.length ≤ 1000000) : ae Tryz.prog 121 [au l,.int .i64 x] (.bool (inP l x)):=by
 refine ag aa Tryz.func121 rfl (by kernel_rfl) af (Nat.le_of_ble_eq_true rfl) ?_
 intro F n' w0 m0 hG hro h1
 repeat' first|refine Q1 ?_|refine Q2 ?_|refine Q3 hG aa oj ?_|refine Q4 hG aa oj ?_|refine Q5 hG aa ?_|refine Q6 hG aa ?_|refine Q7 hG aa ?_|refine Q8 hG aa ?_|refine Q9 rfl ?_|refine QF rfl ?_|refine QC rfl ⟨fun h => ?_,fun h => ?_⟩|((conv => whnf); first|refine anF ?_|refine anT ?_|refine anK ?_|refine Exists.intro _ (And.intro (qi l x hl) ?_)|refine And.intro (fun h => ?_) (fun h => ?_)|refine Or.inl ?_)
 all_goals exact Ends.mk (Or.inl rfl) (ac (congrArg AV.bool (dS _ l 0)))
theorem wO (l : List Int) (hl : l.length ≤ 1000000) : ae Tryz.prog 197 [au l] (au l):=by
 rcases l with _ | ⟨x,l⟩
 ·refine ag aa Tryz.func197 rfl (by kernel_rfl) af (Nat.le_of_ble_eq_true rfl) ?_
  intro F n' w0 m0 hG hro h1
  repeat' first|refine Q1 ?_|refine Q2 ?_|refine Q3 hG aa gG ?_|refine SPB.regM hG aa (M:=fun t => t = 312) lU gG (by kernel_rfl) ?_|refine Q5 hG aa ?_|refine Q6 hG aa ?_|refine Q7 hG aa ?_|refine Q8 hG aa ?_|refine Q9 rfl ?_|refine QF rfl ?_|refine QC rfl ⟨fun h => ?_,fun h => ?_⟩|((conv => whnf); first|refine anF ?_|refine anT ?_|refine anK ?_|refine And.intro (Nat.le_of_ble_eq_true rfl) (And.intro (Nat.le_of_ble_eq_true rfl) ?_)|refine And.intro (fun _ => ?_) ?_|refine And.intro (fun h => ?_) (fun h => ?_)|refine Or.inl ?_)
  all_goals (first | exact Ends.mk (Or.inl rfl) (ac rfl) | (dsimp only; exact Ends.mk (Or.inl rfl) (ac rfl)) | (show AI.Ends _ _ _ _ _; exact Ends.mk (Or.inl rfl) (ac rfl)))
 ·have hr1 : (([] : List (List AV)).length + ((x :: l).map fun h => [AV.int .i64 h]).length) * 8 ≤ 70368744177664:=by simp at hl ⊢; omega
  have hr2 : ([] : List (List AV)).length + ((x :: l).map fun h => [AV.int .i64 h]).length ≤ 4611686018427387904:=by simp at hl ⊢; omega
  refine ag aa Tryz.func197 rfl (by kernel_rfl) af (Nat.le_of_ble_eq_true rfl) ?_
  intro F n' w0 m0 hG hro h1
  repeat' first|refine Q1 ?_|refine Q2 ?_|refine Q3 hG aa gG ?_|refine SPB.regM hG aa (M:=fun t => t = 312) lU gG (by kernel_rfl) ?_|refine Q5 hG aa ?_|refine Q6 hG aa ?_|refine Q7 hG aa ?_|refine Q8 hG aa ?_|refine Q9 rfl ?_|refine QF rfl ?_|refine QC rfl ⟨fun h => ?_,fun h => ?_⟩|((conv => whnf); first|refine anF ?_|refine anT ?_|refine anK ?_|refine And.intro (fun h => absurd h (by simp)) ?_|refine And.intro hr1 (And.intro hr2 ?_)|refine And.intro (fun h => ?_) (fun h => ?_)|refine Or.inl ?_)
  all_goals (first | exact Ends.mk (Or.inl rfl) (ac rfl) | (dsimp only; exact Ends.mk (Or.inl rfl) (ac rfl)) | (show AI.Ends _ _ _ _ _; exact Ends.mk (Or.inl rfl) (ac rfl)))
theorem uV (ps : List al) (l : List Int) (k : Int) (hl : l.length ≤ 1000000) (hps : ps.length ≤ 1000000) : ae Tryz.prog 192 [ak ps,au l,.int .i64 k] (.bool (ej ps l k)):=by
 refine ag aa Tryz.func192 rfl (by kernel_rfl) af (Nat.le_of_ble_eq_true rfl) ?_
 intro F n' w0 m0 hG hro h1
 repeat' first|refine Q1 ?_|refine Q2 ?_|refine Q3 hG aa nF ?_|refine Q4 hG aa nF ?_|refine Q5 hG aa ?_|refine Q6 hG aa ?_|refine Q7 hG aa ?_|refine Q8 hG aa ?_|refine Q9 rfl ?_|refine QF rfl ?_|refine QC rfl ⟨fun h => ?_,fun h => ?_⟩|((conv => whnf); first|refine anF ?_|refine anT ?_|refine anK ?_|refine Exists.intro _ (And.intro (uU k) ?_)|refine Exists.intro _ (And.intro (sq ps l hl hps) ?_)|refine Exists.intro _ (And.intro (AJ ps l hl (by assumption)) ?_)|refine And.intro (fun h => ?_) (fun h => ?_)|refine Or.inl ?_)
 all_goals refine Ends.mk (Or.inl rfl) (ac (congrArg AV.bool ?_))
 all_goals (clear hG; grind [ej])
def slL (ps : List al) (t : Int) (x : aU) : Bool:=!decide (x.p < 0) && !decide (x.p ≥ (ps.length : Int)) && !decide (x.a < max t (aA ps x.p.toNat).sa) && !decide (x.a ≥ x.b) && !decide (x.b > (aA ps x.p.toNat).sb)
def ql (ps : List al) : Int → List aU → Bool
 | _,[] => true
 | t,x :: r => slL ps t x && ql ps x.b r
def bz (o : Opt) (ps : List al) : Bool:=!decide ((o.sl.length : Int) < 1) && !decide ((o.sl.length : Int) > 6) && bp ps && ql ps 0 o.sl
theorem zy {ps : List al} {t : Int} {l : List aU} {i : Nat} (h : i < l.length) : ql ps t (l.drop i) = (slL ps t (l.getD i ⟨0,0,0⟩) && ql ps (l.getD i ⟨0,0,0⟩).b (l.drop (i + 1))):=by
 rw [List.drop_eq_getElem_cons h,List.getD_eq_getElem?_getD,List.getElem?_eq_getElem h]; rfl
set_option maxHeartbeats 4000000 in
theorem pK (o : Opt) (ps : List al) (hl : o.sl.length ≤ 1000000) (hps : ps.length ≤ 1000000) : ae Tryz.prog 117 [.agg (aH o),ak ps] (.bool (bz o ps)):=by
 have hlm : ((o.sl.map aw).length : Int) = (o.sl.length : Int):=by rw [List.length_map]
 have hpm : ((ps.map aG).length : Int) = (ps.length : Int):=by rw [List.length_map]
 refine ag aa Tryz.func117 rfl (by kernel_rfl) af (Nat.le_of_ble_eq_true rfl) ?_
 intro F n' w0 m0 hG hro h1
 repeat' first|refine Q1 ?_|refine Q2 ?_|refine Q3 hG aa eK ?_|refine Q4 hG aa eK ?_|refine Q5 hG aa ?_|refine Q6 hG aa ?_|refine Q7 hG aa ?_|refine Q8 hG aa ?_|refine Q9 rfl ?_|refine QF rfl ?_|refine QC rfl ⟨fun h => ?_,fun h => ?_⟩|((conv => whnf); first|refine anF ?_|refine anT ?_|refine anK ?_|refine Exists.intro _ (And.intro (eV ps hps) ?_)|refine And.intro (fun h => ?_) (fun h => ?_)|refine Or.inl ?_)
 all_goals first
  |(refine Ends.mk (Or.inl rfl) (ac (congrArg AV.bool ?_))
    (rw [hlm] at *; clear hG; grind [bz]))
  | skip
 have hval : bz o ps = ql ps 0 o.sl:=by rw [hlm] at *; clear hG; grind [bz]
 rw [hval]
 refine ar (X:=Nat × Int) (fun x => ⟨[(27,.int .i64 x.1),(5,.int .i64 x.2),(26,.int .i64 (o.sl.map aw).length),(25,.sl .no 3 (o.sl.map aw)),(2,.loc 2 0),(1,ak ps)],[(2,aH o)]⟩) (fun x => x.1 ≤ o.sl.length ∧ ql ps x.2 (o.sl.drop x.1) = ql ps 0 o.sl) (fun x => o.sl.length - x.1) (0,0) ⟨Nat.zero_le _,rfl⟩ (ah ?_ ?_) (fun x hx => ?_)
 ·repeat' (first | exact trivial | refine And.intro rfl ?_)
 ·repeat' (first | exact trivial | refine And.intro rfl ?_)
 ·obtain ⟨i,e⟩:=x
  obtain ⟨hi,hf⟩:=hx
  simp only at hi hf ⊢
  by_cases hlt_i : i < o.sl.length
  ·have bbk : decide ((i : Int) < ((o.sl.map aw).length : Int)) = false → False:=fun h => by have:=of_decide_eq_false h; simp at this; omega
   have hx:=cR hlt_i
   rw [zy hlt_i] at hf
   generalize o.sl.getD i ⟨0,0,0⟩ = x at hx hf
   have bad : slL ps e x = false → false = ql ps 0 o.sl:=fun h => by rw [← hf,h,Bool.false_and]
   have hin : decide (x.p < 0) = false → decide (x.p ≥ ((ps.map aG).length : Int)) = false → 0 ≤ x.p ∧ (ps.map aG)[x.p.toNat]? = some (aG (aA ps x.p.toNat)):=fun h1 h2 => by
    have h1:=of_decide_eq_false h1
    have h2:=of_decide_eq_false h2
    rw [hpm] at h2
    exact ⟨by omega,cn (by omega)⟩
   repeat' first|exact (bbk (by assumption)).elim|refine Q1 ?_|refine Q2 ?_|refine Q3 hG aa eK ?_|refine Q4 hG aa eK ?_|refine Q5 hG aa ?_|refine Q6 hG aa ?_|refine Q7 hG aa ?_|refine Q8 hG aa ?_|refine Q9 rfl ?_|refine QF rfl ?_|refine QC rfl ⟨fun h => ?_,fun h => ?_⟩|((conv => whnf); first|refine anF ?_|refine anT ?_|refine anK ?_|refine And.intro (Int.natCast_nonneg i) (Exists.intro _ (And.intro hx ?_))|refine And.intro (hin (by assumption) (by assumption)).1 (Exists.intro _ (And.intro (hin (by assumption) (by assumption)).2 ?_))|refine And.intro (fun h => ?_) (fun h => ?_)|refine Or.inl ?_)
   all_goals first
    |(refine Ends.mk (Or.inl rfl) (ac (congrArg AV.bool ?_))
      exact bad (by rw [hpm] at *; clear hG; grind [slL]))
    | skip
   all_goals (refine Exists.intro (i + 1,x.b) (And.intro ?_ (And.intro (by show o.sl.length - (i + 1) < o.sl.length - i; omega) (ah ?_ ?_))))
   all_goals first
    |(refine And.intro (congrArg some (ap (by omega))) ?_
      repeat' (first | exact trivial | refine And.intro rfl ?_))
    |((repeat' (first | exact trivial | refine And.intro rfl ?_)); done)
    |(exact ⟨hlt_i,by rw [← hf,show slL ps e x = true by (rw [hpm] at *; clear hG; grind [slL]),Bool.true_and]⟩)
  ·have bbk : decide ((i : Int) < ((o.sl.map aw).length : Int)) = true → False:=fun h => by have:=of_decide_eq_true h; simp at this; omega
   rw [List.drop_of_length_le (by omega)] at hf
   repeat' first|exact (bbk (by assumption)).elim|refine Q1 ?_|refine Q2 ?_|refine Q3 hG aa eK ?_|refine Q4 hG aa eK ?_|refine Q5 hG aa ?_|refine Q6 hG aa ?_|refine Q7 hG aa ?_|refine Q8 hG aa ?_|refine Q9 rfl ?_|refine QF rfl ?_|refine QC rfl ⟨fun h => ?_,fun h => ?_⟩|((conv => whnf); first|refine anF ?_|refine anT ?_|refine anK ?_|refine And.intro (fun h => ?_) (fun h => ?_)|refine Or.inl ?_)
   exact Ends.mk (Or.inl rfl) (ac (congrArg AV.bool hf))
def f7 (o : Opt) (lost : List Int) : Int:=bV (fun x : aU => !inP lost x.p) o.sl 0
def gQ (o : Opt) (ps : List al) (lost : List Int) : Bool:=bz o ps && gq ps lost
def qS (o : Opt) (ps : List al) (lost : List Int) : AV:=.tup (if gQ o ps lost then [.int .i64 (f7 o lost),.int .i64 0] else [.int .i64 0,.int .i64 180])
theorem wC (x : aU) (lost : List Int) (hl : lost.length ≤ 1000000) : ae Tryz.prog 256 ((.agg (aw x)) :: [.ref [au lost]]) (.bool (!inP lost x.p)):=by
 refine ag aa Tryz.func256 rfl (by kernel_rfl) af (Nat.le_of_ble_eq_true rfl) ?_
 intro F n' w0 m0 hG hro h1
 repeat' first|refine Q1 ?_|refine Q2 ?_|refine Q3 hG aa nl ?_|refine Q4 hG aa nl ?_|refine Q5 hG aa ?_|refine Q6 hG aa ?_|refine Q7 hG aa ?_|refine Q8 hG aa ?_|refine Q9 rfl ?_|refine QF rfl ?_|refine QC rfl ⟨fun h => ?_,fun h => ?_⟩|((conv => whnf); first|refine anF ?_|refine anT ?_|refine anK ?_|refine Exists.intro _ (And.intro (ko lost _ hl) ?_)|refine And.intro (fun h => ?_) (fun h => ?_)|refine Or.inl ?_)
 all_goals exact Ends.mk (Or.inl rfl) (ac rfl)
theorem sr (l : List aU) (p : aU → Bool) (g : FuncId) (fv : AV) (cap : List AV) (hf : fv = .clo g cap ∨ (fv = .fn g ∧ cap = [])) (hl : l.length ≤ 1000000)
  (hp : ∀ x ∈ l,ae Tryz.prog g ((.agg (aw x)) :: cap) (.bool (p x))) : ae Tryz.prog 255 [.sl .no 3 (l.map aw),fv] (.int .i64 (bV p l 0)):=by
 rcases hf with rfl | ⟨rfl,rfl⟩
 ·refine ag aa Tryz.func255 rfl (by kernel_rfl) af (Nat.le_of_ble_eq_true rfl) ?_
  intro F n' w0 m0 hG hro h1
  repeat' first|refine Q1 ?_|refine Q2 ?_|refine Q3 hG aa c7 ?_|refine Q4 hG aa c7 ?_|refine Q5 hG aa ?_|refine Q6 hG aa ?_|refine Q7 hG aa ?_|refine Q8 hG aa ?_|refine Q9 rfl ?_|refine QF rfl ?_|refine QC rfl ⟨fun h => ?_,fun h => ?_⟩|((conv => whnf); first|refine anF ?_|refine anT ?_|refine anK ?_|refine And.intro (fun h => ?_) (fun h => ?_)|refine Or.inl ?_)
  refine ar (X:=Nat) (fun j => ⟨[(8,.int .i64 j),(7,.int .i64 (l.map aw).length),(0,.sl .no 3 (l.map aw)),(1,.clo g cap)],[]⟩) (fun j => j ≤ l.length ∧ bV p (l.drop j) j = bV p l 0) (fun j => l.length - j) 0
   ⟨Nat.zero_le _,by simp⟩ (ah ?_ trivial) (fun j hj => ?_)
  ·repeat' (first | exact trivial | refine And.intro rfl ?_)
  ·obtain ⟨hj,hi⟩:=hj
   have hj2 : decide ((j : Int) < ((l.map aw).length : Int)) = true → j < l.length:=fun h => by have:=of_decide_eq_true h; simp at this; omega
   have hx : decide ((j : Int) < ((l.map aw).length : Int)) = true → (l.map aw)[(j : Int).toNat]? = some (aw (l.getD j ⟨0,0,0⟩)):=fun h => by have:=hj2 h; simp [List.getElem?_eq_getElem this]
   have hc : decide ((j : Int) < ((l.map aw).length : Int)) = true → ae Tryz.prog g ((.agg (aw (l.getD j ⟨0,0,0⟩))) :: cap) (.bool (p (l.getD j ⟨0,0,0⟩))):=fun h => hp _ (by have:=hj2 h; rw [List.getD_eq_getElem?_getD,List.getElem?_eq_getElem this]; exact List.getElem_mem this)
   repeat' first|refine Q1 ?_|refine Q2 ?_|refine Q3 hG aa c7 ?_|refine Q4 hG aa c7 ?_|refine Q5 hG aa ?_|refine Q6 hG aa ?_|refine Q7 hG aa ?_|refine Q8 hG aa ?_|refine Q9 rfl ?_|refine QF rfl ?_|refine QC rfl ⟨fun h => ?_,fun h => ?_⟩|((conv => whnf); first|refine anF ?_|refine anT ?_|refine anK ?_|refine And.intro (Int.natCast_nonneg j) (Exists.intro _ (And.intro (hx (by assumption)) ?_))|refine Exists.intro _ (And.intro (hc (by assumption)) ?_)|refine And.intro (fun h => ?_) (fun h => ?_)|refine Or.inl ?_)
   ·rw [aT (d:=⟨0,0,0⟩) (hj2 (by assumption)),if_pos (by assumption)] at hi
    exact Ends.mk (Or.inl rfl) (ac (congrArg (AV.int .i64) hi))
   ·have hj2:=hj2 (by assumption)
    rw [aT (d:=⟨0,0,0⟩) hj2,if_neg (fun h => tf h (by assumption))] at hi
    refine Exists.intro (j + 1) (And.intro ⟨hj2,hi⟩ (And.intro (by omega) (ah ?_ trivial)))
    refine And.intro (congrArg (fun z => some (AV.int .i64 z)) ((aq (by omega) (by omega)).trans (by omega))) ?_
    repeat' (first | exact trivial | refine And.intro rfl ?_)
   ·have hj2 : l.length ≤ j:=by have:=of_decide_eq_false (by assumption : decide ((j : Int) < ((l.map aw).length : Int)) = false); simp at this; omega
    rw [List.drop_of_length_le hj2] at hi
    exact Ends.mk (Or.inl rfl) (ac (congrArg (AV.int .i64) hi))
 ·refine ag aa Tryz.func255 rfl (by kernel_rfl) af (Nat.le_of_ble_eq_true rfl) ?_
  intro F n' w0 m0 hG hro h1
  repeat' first|refine Q1 ?_|refine Q2 ?_|refine Q3 hG aa c7 ?_|refine Q4 hG aa c7 ?_|refine Q5 hG aa ?_|refine Q6 hG aa ?_|refine Q7 hG aa ?_|refine Q8 hG aa ?_|refine Q9 rfl ?_|refine QF rfl ?_|refine QC rfl ⟨fun h => ?_,fun h => ?_⟩|((conv => whnf); first|refine anF ?_|refine anT ?_|refine anK ?_|refine And.intro (fun h => ?_) (fun h => ?_)|refine Or.inl ?_)
  refine ar (X:=Nat) (fun j => ⟨[(8,.int .i64 j),(7,.int .i64 (l.map aw).length),(0,.sl .no 3 (l.map aw)),(1,.fn g)],[]⟩) (fun j => j ≤ l.length ∧ bV p (l.drop j) j = bV p l 0) (fun j => l.length - j) 0
   ⟨Nat.zero_le _,by simp⟩ (ah ?_ trivial) (fun j hj => ?_)
  ·repeat' (first | exact trivial | refine And.intro rfl ?_)
  ·obtain ⟨hj,hi⟩:=hj
   have hj2 : decide ((j : Int) < ((l.map aw).length : Int)) = true → j < l.length:=fun h => by have:=of_decide_eq_true h; simp at this; omega
   have hx : decide ((j : Int) < ((l.map aw).length : Int)) = true → (l.map aw)[(j : Int).toNat]? = some (aw (l.getD j ⟨0,0,0⟩)):=fun h => by have:=hj2 h; simp [List.getElem?_eq_getElem this]
   have hc : decide ((j : Int) < ((l.map aw).length : Int)) = true → ae Tryz.prog g ((.agg (aw (l.getD j ⟨0,0,0⟩))) :: []) (.bool (p (l.getD j ⟨0,0,0⟩))):=fun h => hp _ (by have:=hj2 h; rw [List.getD_eq_getElem?_getD,List.getElem?_eq_getElem this]; exact List.getElem_mem this)
   repeat' first|refine Q1 ?_|refine Q2 ?_|refine Q3 hG aa c7 ?_|refine Q4 hG aa c7 ?_|refine Q5 hG aa ?_|refine Q6 hG aa ?_|refine Q7 hG aa ?_|refine Q8 hG aa ?_|refine Q9 rfl ?_|refine QF rfl ?_|refine QC rfl ⟨fun h => ?_,fun h => ?_⟩|((conv => whnf); first|refine anF ?_|refine anT ?_|refine anK ?_|refine And.intro (Int.natCast_nonneg j) (Exists.intro _ (And.intro (hx (by assumption)) ?_))|refine Exists.intro _ (And.intro (hc (by assumption)) ?_)|refine And.intro (fun h => ?_) (fun h => ?_)|refine Or.inl ?_)
   ·rw [aT (d:=⟨0,0,0⟩) (hj2 (by assumption)),if_pos (by assumption)] at hi
    exact Ends.mk (Or.inl rfl) (ac (congrArg (AV.int .i64) hi))
   ·have hj2:=hj2 (by assumption)
    rw [aT (d:=⟨0,0,0⟩) hj2,if_neg (fun h => tf h (by assumption))] at hi
    refine Exists.intro (j + 1) (And.intro ⟨hj2,hi⟩ (And.intro (by omega) (ah ?_ trivial)))
    refine And.intro (congrArg (fun z => some (AV.int .i64 z)) ((aq (by omega) (by omega)).trans (by omega))) ?_
    repeat' (first | exact trivial | refine And.intro rfl ?_)
   ·have hj2 : l.length ≤ j:=by have:=of_decide_eq_false (by assumption : decide ((j : Int) < ((l.map aw).length : Int)) = false); simp at this; omega
    rw [List.drop_of_length_le hj2] at hi
    exact Ends.mk (Or.inl rfl) (ac (congrArg (AV.int .i64) hi))
theorem yi (o : Opt) (ps : List al) (lost : List Int) (ho : o.sl.length ≤ 1000000) (hps : ps.length ≤ 1000000) (hl : lost.length ≤ 1000000) : ae Tryz.prog 198 [.agg (aH o),ak ps,au lost] (qS o ps lost):=by
 refine ag aa Tryz.func198 rfl (by kernel_rfl) af (Nat.le_of_ble_eq_true rfl) ?_
 intro F n' w0 m0 hG hro h1
 repeat' first|refine Q1 ?_|refine Q2 ?_|refine Q3 hG aa nD ?_|refine Q4 hG aa nD ?_|refine Q5 hG aa ?_|refine Q6 hG aa ?_|refine Q7 hG aa ?_|refine Q8 hG aa ?_|refine Q9 rfl ?_|refine QF rfl ?_|refine QC rfl ⟨fun h => ?_,fun h => ?_⟩|((conv => whnf); first|refine anF ?_|refine anT ?_|refine anK ?_|refine Exists.intro _ (And.intro (pK o ps ho hps) ?_)|refine Exists.intro _ (And.intro (sq ps lost hl hps) ?_)|refine Exists.intro _ (And.intro (sr o.sl _ _ _ _ (Or.inl rfl) ho (fun x _ => wC x lost hl)) ?_)|refine And.intro (fun h => ?_) (fun h => ?_)|refine Or.inl ?_)
 all_goals refine Ends.mk (Or.inl rfl) (ac ?_)
 all_goals (clear hG; first
  |(have h : gQ o ps lost = true:=by grind [gQ]
    simp only [qS,h,if_true]; rfl)
  |(have h : gQ o ps lost = false:=by grind [gQ]
    simp only [qS,h]; rfl))
end Go.Proofs
namespace Go.Proofs
open Go Go.AI
set_option maxRecDepth 10000
theorem vU (l : List Int) : bA (gx l) = l.map fun h => [AV.int .i64 h]:=by simp [bA,gx]
theorem B9 (l : List Int) : ∀ x ∈ gx l,x.length = 1:=fun x hx => by
 obtain ⟨y,_,rfl⟩:=List.mem_map.1 hx; rfl
theorem wB (l : List Int) (hl : l.length ≤ 1000000) : o2 Tryz.prog 114 l (sortI l):=o2.sortI tS (enters_of Tryz.func114 (by kernel_rfl) rfl) l (by omega)
theorem sR (l : List Int) (hl : l.length ≤ 1000000) : dP Tryz.prog 115 1 (gx l) [] (fun r _ => r = .sl .no 1 (bA (gx (Lib.compact l)))):=dP.compactI tU (enters_of Tryz.func115 (by kernel_rfl) rfl) l (by omega)
theorem sK (sz : Nat) {o : Go.AI.Own} : ae Tryz.prog 114 [.sl o sz []] (.tup []):=ae.sortNilI tS (enters_of Tryz.func114 (by kernel_rfl) rfl) sz
theorem o4 (sz sz2 : Nat) {o : Go.AI.Own} : ae Tryz.prog 115 [.sl o sz []] (.sl .no sz2 []):=ae.compactNil tU (enters_of Tryz.func115 (by kernel_rfl) rfl) sz sz2
def zC : List Int → List (Nat × AV)
 | [] => [(2,.sl .full 0 [])]
 | x :: r => [(2,.me .sl 33 (x :: r).length []),(xk 33,.me .arr 33 1 ((x :: r).map fun h => [AV.int .i64 h]))]
theorem dU (o : List Int) (z : Int) : zC (o ++ [z]) = [(2,.me .sl 33 (o.length + 1) []),(xk 33,.me .arr 33 1 ((o ++ [z]).map fun h => [AV.int .i64 h]))]:=by
 cases o with
 | nil => rfl
 | cons x r => simp [zC]
theorem qU (o : List Int) (z x : Int) : zC (o ++ [z] ++ [x]) = [(2,.me .sl 33 (o.length + 1 + 1) []),(xk 33,.me .arr 33 1 ((o ++ [z]).map (fun h => [AV.int .i64 h]) ++ [[AV.int .i64 x]]))]:=by
 rw [dU,List.map_append,List.length_append]; rfl
def fM (o : Opt) : List Int:=(o.sl.take 6).map (·.p)
theorem s9 (l : List Opt) : (l.flatMap fM).length ≤ 6 * l.length:=by
 induction l with
 | nil => simp
 | cons o r ih =>
  rw [List.flatMap_cons,List.length_append,List.length_cons]
  have : (fM o).length ≤ 6:=by unfold fM; rw [List.length_map,List.length_take]; omega
  omega
theorem Fw {α : Type} (l : List α) (n : Nat) (m : Int) (hm : m = min (l.length : Int) n) : 0 ≤ m ∧ m.toNat ≤ l.length ∧ (l.take m.toNat).drop 0 = l.take n:=by
 subst hm
 refine ⟨by omega,by omega,?_⟩
 rw [List.drop_zero]
 rcases Nat.le_total l.length n with h | h
 ·rw [List.take_of_length_le (by omega),List.take_of_length_le h]
 ·rw [show (min (l.length : Int) n).toNat = n by omega]
set_option maxHeartbeats 16000000 in
theorem fT (l : List Opt) (hl : l.length ≤ 1000000) (hs : fc l) : ae Tryz.prog 47 [aM l] (au (aC l)):=by
 obtain ⟨h8a,h8b,h8c⟩:=Fw (l.map aH) 8 _ rfl
 have h8c:=h8c.trans List.map_take.symm
 refine ag aa Tryz.func47 rfl (by kernel_rfl) af (Nat.le_of_ble_eq_true rfl) ?_
 intro F n' w0 m0 hG hro h1
 refine Q1 ?_
 refine SPB.regN hG aa aJ [2] (by kernel_rfl) ?_
 conv => whnf
 repeat' first|refine Q1 ?_|refine Q2 ?_|refine Q3 hG aa aJ ?_|refine Q4 hG aa aJ ?_|refine Q5 hG aa ?_|refine Q6 hG aa ?_|refine Q7 hG aa ?_|refine Q8 hG aa ?_|refine Q9 rfl ?_|refine QF rfl ?_|refine QC rfl ⟨fun h => ?_,fun h => ?_⟩|((conv => whnf); first|refine anF ?_|refine anT ?_|refine anK ?_|refine And.intro h8a (And.intro (Nat.zero_le _) (And.intro h8b ?_))|refine And.intro (fun h => ?_) (fun h => ?_)|refine Or.inl ?_)
 refine ar (X:=Nat) (fun i => ⟨(13,.int .i64 i) :: (12,.int .i64 ((l.take 8).map aH).length) :: (11,aM (l.take 8)) :: zC (((l.take 8).take i).flatMap fM),[]⟩) (fun i => i ≤ (l.take 8).length) (fun i => (l.take 8).length - i) 0 (Nat.zero_le _) (ah ?_ ?_) (fun i hi => ?_)
 ·refine And.intro rfl (And.intro (congrArg (fun z => some (AV.int .i64 (z : List (List AV)).length)) h8c) (And.intro (congrArg (fun z => some (AV.sl .no 9 z)) h8c) ?_))
  repeat' (first | exact trivial | refine And.intro rfl ?_)
 ·repeat' (first | exact trivial | refine And.intro rfl ?_)
 ·have h8 : i ≤ 8:=by rw [List.length_take] at hi; omega
  by_cases hlt_i : i < (l.take 8).length
  ·have bbk : decide ((i : Int) < (((l.take 8).map aH).length : Int)) = false → False:=fun h => by have:=of_decide_eq_false h; rw [List.length_map] at this; omega
   have hx:=gh hlt_i
   have hsn : ((l.take 8).take (i + 1)).flatMap fM = ((l.take 8).take i).flatMap fM ++ fM (aF (l.take 8) i):=by
    rw [List.take_add_one,List.getElem?_eq_getElem hlt_i,cp hlt_i]; simp
   have hlen:=s9 ((l.take 8).take i)
   have hpu : fM (aF (l.take 8) i) = ((aF (l.take 8) i).sl.take 6).map (·.p):=rfl
   rw [List.length_take] at hlen
   generalize aF (l.take 8) i = u at hx hsn hpu
   generalize hcc : ((l.take 8).take i).flatMap fM = c at hsn hlen
   obtain ⟨h6a,h6b,h6c⟩:=Fw (u.sl.map aw) 6 _ rfl
   have h6c:=h6c.trans List.map_take.symm
   rcases ck c with hc | ⟨o,z,hc⟩
   ·rw [hc]
    repeat' first|exact (bbk (by assumption)).elim|refine Q1 ?_|refine Q2 ?_|refine Q3 hG aa aJ ?_|refine Q4 hG aa aJ ?_|refine Q5 hG aa ?_|refine Q6 hG aa ?_|refine Q7 hG aa ?_|refine Q8 hG aa ?_|refine Q9 rfl ?_|refine QF rfl ?_|refine QC rfl ⟨fun h => ?_,fun h => ?_⟩|((conv => whnf); first|refine anF ?_|refine anT ?_|refine anK ?_|refine And.intro (Int.natCast_nonneg i) (Exists.intro _ (And.intro hx ?_))|refine And.intro h6a (And.intro (Nat.zero_le _) (And.intro h6b ?_))|refine And.intro (fun h => ?_) (fun h => ?_)|refine Or.inl ?_)
    refine ar (X:=Nat) (fun j => ⟨(25,.int .i64 j) :: (24,.int .i64 ((u.sl.take 6).map aw).length) :: (23,.sl .no 3 ((u.sl.take 6).map aw)) :: (13,.int .i64 i) :: (12,.int .i64 ((l.take 8).map aH).length) :: (11,aM (l.take 8)) :: zC (c ++ ((u.sl.take 6).take j).map (·.p)),[]⟩) (fun j => j ≤ (u.sl.take 6).length) (fun j => (u.sl.take 6).length - j) 0 (Nat.zero_le _) (ah ?_ ?_) (fun j hj => ?_)
    ·refine And.intro rfl (And.intro (congrArg (fun z => some (AV.int .i64 (z : List (List AV)).length)) h6c) (And.intro (congrArg (fun z => some (AV.sl .no 3 z)) h6c) ?_))
     simp only [List.take_zero,List.map_nil,List.append_nil]
     rw [hc]
     repeat' (first | exact trivial | refine And.intro rfl ?_)
    ·repeat' (first | exact trivial | refine And.intro rfl ?_)
    ·have hj6 : j ≤ 6:=by rw [List.length_take] at hj; omega
     by_cases hlt_j : j < (u.sl.take 6).length
     ·have bbj : decide ((j : Int) < (((u.sl.take 6).map aw).length : Int)) = false → False:=fun h => by have:=of_decide_eq_false h; rw [List.length_map] at this; omega
      have hy:=cR hlt_j
      have hsn2 : c ++ ((u.sl.take 6).take (j + 1)).map (·.p) = (c ++ ((u.sl.take 6).take j).map (·.p)) ++ [((u.sl.take 6).getD j ⟨0,0,0⟩).p]:=by
       rw [List.take_add_one,List.getElem?_eq_getElem hlt_j,List.getD_eq_getElem?_getD,List.getElem?_eq_getElem hlt_j]; simp
      have hlen2 : (c ++ ((u.sl.take 6).take j).map (·.p)).length ≤ 100:=by rw [List.length_append,List.length_map,List.length_take]; omega
      generalize (u.sl.take 6).getD j ⟨0,0,0⟩ = y at hy hsn2
      generalize c ++ ((u.sl.take 6).take j).map (·.p) = d at hsn2 hlen2
      rcases ck d with hc | ⟨o,z,hc⟩
      ·rw [hc]
       repeat' first|exact (bbj (by assumption)).elim|refine Q1 ?_|refine Q2 ?_|refine Q3 hG aa aJ ?_|refine Q4 hG aa aJ ?_|refine Q5 hG aa ?_|refine Q6 hG aa ?_|refine Q7 hG aa ?_|refine Q8 hG aa ?_|refine Q9 rfl ?_|refine QF rfl ?_|refine QC rfl ⟨fun h => ?_,fun h => ?_⟩|((conv => whnf); first|refine anF ?_|refine anT ?_|refine anK ?_|refine And.intro (Int.natCast_nonneg j) (Exists.intro _ (And.intro hy ?_))|refine Or.inr (And.intro rfl (And.intro (Nat.le_of_ble_eq_true rfl) (And.intro (Nat.le_of_ble_eq_true rfl) (And.intro (Nat.le_of_ble_eq_true rfl) ?_))))|refine And.intro (fun h => ?_) (fun h => ?_)|refine Or.inl ?_)
       refine Exists.intro (j + 1) (And.intro hlt_j (And.intro (by omega) ?_))
       (try dsimp only)
       rw [hsn2,hc]
       refine ah (And.intro (congrArg some (ap (by omega))) ?_) ?_
       ·repeat' (first | exact trivial | refine And.intro rfl ?_)
       ·repeat' (first | exact trivial | refine And.intro rfl ?_)
      ·rw [hc,dU]
       have hln : ((o ++ [z]).map fun h => [AV.int .i64 h]).length = o.length + 1:=by simp
       have hlo : o.length ≤ 100:=by rw [hc] at hlen2; simp at hlen2; omega
       repeat' first|exact (bbj (by assumption)).elim|refine Q1 ?_|refine Q2 ?_|refine Q3 hG aa aJ ?_|refine Q4 hG aa aJ ?_|refine Q5 hG aa ?_|refine Q6 hG aa ?_|refine Q7 hG aa ?_|refine Q8 hG aa ?_|refine Q9 rfl ?_|refine QF rfl ?_|refine QC rfl ⟨fun h => ?_,fun h => ?_⟩|((conv => whnf); first|refine anF ?_|refine anT ?_|refine anK ?_|refine And.intro (Int.natCast_nonneg j) (Exists.intro _ (And.intro hy ?_))|refine And.intro (Nat.le_of_ble_eq_true rfl) (And.intro (show ((((o ++ [z]).map fun h => [AV.int .i64 h])).length + 1) * 8 ≤ 70368744177664 by rw [hln]; omega) (And.intro (show (((o ++ [z]).map fun h => [AV.int .i64 h])).length + 1 ≤ 4611686018427387904 by rw [hln]; omega) ?_))|refine And.intro (fun h => ?_) (fun h => ?_)|refine Or.inl ?_)
       refine Exists.intro (j + 1) (And.intro hlt_j (And.intro (by omega) ?_))
       (try dsimp only)
       rw [hsn2,hc,qU]
       refine ah (And.intro (congrArg some (ap (by omega))) ?_) ?_
       ·repeat' (first | exact trivial | refine And.intro rfl ?_)
       ·repeat' (first | exact trivial | refine And.intro rfl ?_)
     ·have bbj : decide ((j : Int) < (((u.sl.take 6).map aw).length : Int)) = true → False:=fun h => by have:=of_decide_eq_true h; rw [List.length_map] at this; omega
      have he : (u.sl.take 6).take j = u.sl.take 6:=List.take_of_length_le (by omega)
      have hsn3 : c ++ ((u.sl.take 6).take j).map (·.p) = ((l.take 8).take (i + 1)).flatMap fM:=by rw [hsn,hpu,he]
      rw [hsn3]
      have hnx : ∀ d,((l.take 8).take (i + 1)).flatMap fM = d → ((l.take 8).take (i + 1)).flatMap fM = d:=fun _ h => h
      generalize hdd : ((l.take 8).take (i + 1)).flatMap fM = d
      rcases ck d with hc | ⟨o,z,hc⟩
      ·rw [hc]
       repeat' first|exact (bbj (by assumption)).elim|refine Q1 ?_|refine Q2 ?_|refine Q3 hG aa aJ ?_|refine Q4 hG aa aJ ?_|refine Q5 hG aa ?_|refine Q6 hG aa ?_|refine Q7 hG aa ?_|refine Q8 hG aa ?_|refine Q9 rfl ?_|refine QF rfl ?_|refine QC rfl ⟨fun h => ?_,fun h => ?_⟩|((conv => whnf); first|refine anF ?_|refine anT ?_|refine anK ?_|refine And.intro (fun h => ?_) (fun h => ?_)|refine Or.inl ?_)
       refine Exists.intro (i + 1) (And.intro hlt_i (And.intro (by omega) ?_))
       (try dsimp only)
       rw [hdd,hc]
       refine ah (And.intro (congrArg some (ap (by omega))) ?_) ?_
       ·repeat' (first | exact trivial | refine And.intro rfl ?_)
       ·repeat' (first | exact trivial | refine And.intro rfl ?_)
      ·rw [hc,dU]
       repeat' first|exact (bbj (by assumption)).elim|refine Q1 ?_|refine Q2 ?_|refine Q3 hG aa aJ ?_|refine Q4 hG aa aJ ?_|refine Q5 hG aa ?_|refine Q6 hG aa ?_|refine Q7 hG aa ?_|refine Q8 hG aa ?_|refine Q9 rfl ?_|refine QF rfl ?_|refine QC rfl ⟨fun h => ?_,fun h => ?_⟩|((conv => whnf); first|refine anF ?_|refine anT ?_|refine anK ?_|refine And.intro (fun h => ?_) (fun h => ?_)|refine Or.inl ?_)
       refine Exists.intro (i + 1) (And.intro hlt_i (And.intro (by omega) ?_))
       (try dsimp only)
       rw [hdd,hc,dU]
       refine ah (And.intro (congrArg some (ap (by omega))) ?_) ?_
       ·repeat' (first | exact trivial | refine And.intro rfl ?_)
       ·repeat' (first | exact trivial | refine And.intro rfl ?_)
   ·rw [hc,dU]
    repeat' first|exact (bbk (by assumption)).elim|refine Q1 ?_|refine Q2 ?_|refine Q3 hG aa aJ ?_|refine Q4 hG aa aJ ?_|refine Q5 hG aa ?_|refine Q6 hG aa ?_|refine Q7 hG aa ?_|refine Q8 hG aa ?_|refine Q9 rfl ?_|refine QF rfl ?_|refine QC rfl ⟨fun h => ?_,fun h => ?_⟩|((conv => whnf); first|refine anF ?_|refine anT ?_|refine anK ?_|refine And.intro (Int.natCast_nonneg i) (Exists.intro _ (And.intro hx ?_))|refine And.intro h6a (And.intro (Nat.zero_le _) (And.intro h6b ?_))|refine And.intro (fun h => ?_) (fun h => ?_)|refine Or.inl ?_)
    refine ar (X:=Nat) (fun j => ⟨(25,.int .i64 j) :: (24,.int .i64 ((u.sl.take 6).map aw).length) :: (23,.sl .no 3 ((u.sl.take 6).map aw)) :: (13,.int .i64 i) :: (12,.int .i64 ((l.take 8).map aH).length) :: (11,aM (l.take 8)) :: zC (c ++ ((u.sl.take 6).take j).map (·.p)),[]⟩) (fun j => j ≤ (u.sl.take 6).length) (fun j => (u.sl.take 6).length - j) 0 (Nat.zero_le _) (ah ?_ ?_) (fun j hj => ?_)
    ·refine And.intro rfl (And.intro (congrArg (fun z => some (AV.int .i64 (z : List (List AV)).length)) h6c) (And.intro (congrArg (fun z => some (AV.sl .no 3 z)) h6c) ?_))
     simp only [List.take_zero,List.map_nil,List.append_nil]
     rw [hc,dU]
     repeat' (first | exact trivial | refine And.intro rfl ?_)
    ·repeat' (first | exact trivial | refine And.intro rfl ?_)
    ·have hj6 : j ≤ 6:=by rw [List.length_take] at hj; omega
     by_cases hlt_j : j < (u.sl.take 6).length
     ·have bbj : decide ((j : Int) < (((u.sl.take 6).map aw).length : Int)) = false → False:=fun h => by have:=of_decide_eq_false h; rw [List.length_map] at this; omega
      have hy:=cR hlt_j
      have hsn2 : c ++ ((u.sl.take 6).take (j + 1)).map (·.p) = (c ++ ((u.sl.take 6).take j).map (·.p)) ++ [((u.sl.take 6).getD j ⟨0,0,0⟩).p]:=by
       rw [List.take_add_one,List.getElem?_eq_getElem hlt_j,List.getD_eq_getElem?_getD,List.getElem?_eq_getElem hlt_j]; simp
      have hlen2 : (c ++ ((u.sl.take 6).take j).map (·.p)).length ≤ 100:=by rw [List.length_append,List.length_map,List.length_take]; omega
      generalize (u.sl.take 6).getD j ⟨0,0,0⟩ = y at hy hsn2
      generalize c ++ ((u.sl.take 6).take j).map (·.p) = d at hsn2 hlen2
      rcases ck d with hc | ⟨o,z,hc⟩
      ·rw [hc]
       repeat' first|exact (bbj (by assumption)).elim|refine Q1 ?_|refine Q2 ?_|refine Q3 hG aa aJ ?_|refine Q4 hG aa aJ ?_|refine Q5 hG aa ?_|refine Q6 hG aa ?_|refine Q7 hG aa ?_|refine Q8 hG aa ?_|refine Q9 rfl ?_|refine QF rfl ?_|refine QC rfl ⟨fun h => ?_,fun h => ?_⟩|((conv => whnf); first|refine anF ?_|refine anT ?_|refine anK ?_|refine And.intro (Int.natCast_nonneg j) (Exists.intro _ (And.intro hy ?_))|refine Or.inr (And.intro rfl (And.intro (Nat.le_of_ble_eq_true rfl) (And.intro (Nat.le_of_ble_eq_true rfl) (And.intro (Nat.le_of_ble_eq_true rfl) ?_))))|refine And.intro (fun h => ?_) (fun h => ?_)|refine Or.inl ?_)
       refine Exists.intro (j + 1) (And.intro hlt_j (And.intro (by omega) ?_))
       (try dsimp only)
       rw [hsn2,hc]
       refine ah (And.intro (congrArg some (ap (by omega))) ?_) ?_
       ·repeat' (first | exact trivial | refine And.intro rfl ?_)
       ·repeat' (first | exact trivial | refine And.intro rfl ?_)
      ·rw [hc,dU]
       have hln : ((o ++ [z]).map fun h => [AV.int .i64 h]).length = o.length + 1:=by simp
       have hlo : o.length ≤ 100:=by rw [hc] at hlen2; simp at hlen2; omega
       repeat' first|exact (bbj (by assumption)).elim|refine Q1 ?_|refine Q2 ?_|refine Q3 hG aa aJ ?_|refine Q4 hG aa aJ ?_|refine Q5 hG aa ?_|refine Q6 hG aa ?_|refine Q7 hG aa ?_|refine Q8 hG aa ?_|refine Q9 rfl ?_|refine QF rfl ?_|refine QC rfl ⟨fun h => ?_,fun h => ?_⟩|((conv => whnf); first|refine anF ?_|refine anT ?_|refine anK ?_|refine And.intro (Int.natCast_nonneg j) (Exists.intro _ (And.intro hy ?_))|refine And.intro (Nat.le_of_ble_eq_true rfl) (And.intro (show ((((o ++ [z]).map fun h => [AV.int .i64 h])).length + 1) * 8 ≤ 70368744177664 by rw [hln]; omega) (And.intro (show (((o ++ [z]).map fun h => [AV.int .i64 h])).length + 1 ≤ 4611686018427387904 by rw [hln]; omega) ?_))|refine And.intro (fun h => ?_) (fun h => ?_)|refine Or.inl ?_)
       refine Exists.intro (j + 1) (And.intro hlt_j (And.intro (by omega) ?_))
       (try dsimp only)
       rw [hsn2,hc,qU]
       refine ah (And.intro (congrArg some (ap (by omega))) ?_) ?_
       ·repeat' (first | exact trivial | refine And.intro rfl ?_)
       ·repeat' (first | exact trivial | refine And.intro rfl ?_)
     ·have bbj : decide ((j : Int) < (((u.sl.take 6).map aw).length : Int)) = true → False:=fun h => by have:=of_decide_eq_true h; rw [List.length_map] at this; omega
      have he : (u.sl.take 6).take j = u.sl.take 6:=List.take_of_length_le (by omega)
      have hsn3 : c ++ ((u.sl.take 6).take j).map (·.p) = ((l.take 8).take (i + 1)).flatMap fM:=by rw [hsn,hpu,he]
      rw [hsn3]
      have hnx : ∀ d,((l.take 8).take (i + 1)).flatMap fM = d → ((l.take 8).take (i + 1)).flatMap fM = d:=fun _ h => h
      generalize hdd : ((l.take 8).take (i + 1)).flatMap fM = d
      rcases ck d with hc | ⟨o,z,hc⟩
      ·rw [hc]
       repeat' first|exact (bbj (by assumption)).elim|refine Q1 ?_|refine Q2 ?_|refine Q3 hG aa aJ ?_|refine Q4 hG aa aJ ?_|refine Q5 hG aa ?_|refine Q6 hG aa ?_|refine Q7 hG aa ?_|refine Q8 hG aa ?_|refine Q9 rfl ?_|refine QF rfl ?_|refine QC rfl ⟨fun h => ?_,fun h => ?_⟩|((conv => whnf); first|refine anF ?_|refine anT ?_|refine anK ?_|refine And.intro (fun h => ?_) (fun h => ?_)|refine Or.inl ?_)
       refine Exists.intro (i + 1) (And.intro hlt_i (And.intro (by omega) ?_))
       (try dsimp only)
       rw [hdd,hc]
       refine ah (And.intro (congrArg some (ap (by omega))) ?_) ?_
       ·repeat' (first | exact trivial | refine And.intro rfl ?_)
       ·repeat' (first | exact trivial | refine And.intro rfl ?_)
      ·rw [hc,dU]
       repeat' first|exact (bbj (by assumption)).elim|refine Q1 ?_|refine Q2 ?_|refine Q3 hG aa aJ ?_|refine Q4 hG aa aJ ?_|refine Q5 hG aa ?_|refine Q6 hG aa ?_|refine Q7 hG aa ?_|refine Q8 hG aa ?_|refine Q9 rfl ?_|refine QF rfl ?_|refine QC rfl ⟨fun h => ?_,fun h => ?_⟩|((conv => whnf); first|refine anF ?_|refine anT ?_|refine anK ?_|refine And.intro (fun h => ?_) (fun h => ?_)|refine Or.inl ?_)
       refine Exists.intro (i + 1) (And.intro hlt_i (And.intro (by omega) ?_))
       (try dsimp only)
       rw [hdd,hc,dU]
       refine ah (And.intro (congrArg some (ap (by omega))) ?_) ?_
       ·repeat' (first | exact trivial | refine And.intro rfl ?_)
       ·repeat' (first | exact trivial | refine And.intro rfl ?_)
  ·have bbk : decide ((i : Int) < (((l.take 8).map aH).length : Int)) = true → False:=fun h => by have:=of_decide_eq_true h; rw [List.length_map] at this; omega
   have he : (l.take 8).take i = l.take 8:=List.take_of_length_le (by omega)
   have hraw : ((l.take 8).take i).flatMap fM = oL l:=by rw [he]; rfl
   have hlen:=s9 (l.take 8)
   have hl8 : (l.take 8).length ≤ 8:=by rw [List.length_take]; omega
   have hlen : (oL l).length ≤ 48:=Nat.le_trans hlen (by omega)
   have hfk : aC l = Lib.compact (sortI (oL l)):=rfl
   rw [hraw,hfk]
   generalize oL l = c at hlen
   rcases ck c with hc | ⟨o,z,hc⟩
   ·rw [hc]
    repeat' first|exact (bbk (by assumption)).elim|refine Q1 ?_|refine Q2 ?_|refine Q3 hG aa aJ ?_|refine Q4 hG aa aJ ?_|refine Q5 hG aa ?_|refine Q6 hG aa ?_|refine Q7 hG aa ?_|refine Q8 hG aa ?_|refine Q9 rfl ?_|refine QF rfl ?_|refine QC rfl ⟨fun h => ?_,fun h => ?_⟩|((conv => whnf); first|refine anF ?_|refine anT ?_|refine anK ?_|refine Exists.intro _ (And.intro (sK _) ?_)|refine Exists.intro _ (And.intro (o4 _ 1) ?_)|refine And.intro (fun h => ?_) (fun h => ?_)|refine Or.inl ?_)
    have h0 : Lib.compact (sortI []) = []:=by simp [sortI,Lib.compact,Lib.compactUpTo]
    rw [h0]
    exact Ends.mk (Or.inl rfl) (ac rfl)
   ·rw [hc,dU]
    have hsl : (sortI (o ++ [z])).length ≤ 1000000:=by unfold sortI; rw [List.length_mergeSort]; rw [hc] at hlen; omega
    have hso : (o ++ [z]).length ≤ 1000000:=by rw [hc] at hlen; omega
    refine Q1 ?_
    refine Q4 hG aa aJ ?_
    conv => whnf
    refine Q1 ?_
    refine QC rfl (And.intro (fun h => (bbk h).elim) (fun _ => ?_))
    refine Q8 hG aa ?_
    conv => whnf
    refine Q1 ?_
    refine SPB.oregW hG aa aJ 1 (by kernel_rfl) ?_
    conv => whnf
    refine And.intro rfl (Exists.intro _ (Exists.intro _ (And.intro (wB _ hso) (And.intro rfl (And.intro (vU _).symm ?_)))))
    conv => whnf
    refine Q1 ?_
    refine SPB.oregX hG aa aJ 1 (by kernel_rfl) ?_
    conv => whnf
    refine Exists.intro _ (Exists.intro _ (And.intro (sR _ hsl) (And.intro rfl (And.intro (B9 _) ?_))))
    rintro r rows' rfl _ _
    conv => whnf
    repeat' first|refine Q1 ?_|refine Q2 ?_|refine Q3 hG aa aJ ?_|refine Q4 hG aa aJ ?_|refine Q5 hG aa ?_|refine Q6 hG aa ?_|refine Q7 hG aa ?_|refine Q8 hG aa ?_|refine Q9 rfl ?_|refine QF rfl ?_|refine QC rfl ⟨fun h => ?_,fun h => ?_⟩|((conv => whnf); first|refine anF ?_|refine anT ?_|refine anK ?_|refine And.intro (fun h => ?_) (fun h => ?_)|refine Or.inl ?_)
    exact Ends.mk (Or.inl rfl) (ac (congrArg (fun z => AV.sl .no 1 z) (vU _)))
end Go.Proofs
namespace Go.Proofs
open Go Go.AI
set_option maxRecDepth 10000
theorem Bw {n : Nat} (h : n ≤ 6) : IntKind.i64.wrap (1 * 2 ^ (min (n : Int).toNat IntKind.i64.bits)) = ((2 ^ n : Nat) : Int):=by
 match n,h with
 | 0,_ | 1,_ | 2,_ | 3,_ | 4,_ | 5,_ | 6,_ => decide
theorem Et : ((List.range 64).all fun b => (List.range 6).all fun i => (o0 .and .i64 ((b : Int).fdiv (2 ^ (min (i : Int).toNat IntKind.i64.bits))) 1 == 1) == uB b i) = true:=by kernel_rfl
theorem Fj {b i : Nat} (hb : b < 64) (hi : i < 6) : (o0 .and .i64 ((b : Int).fdiv (2 ^ (min (i : Int).toNat IntKind.i64.bits))) 1 == 1) = uB b i:=by
 have h:=List.all_eq_true.1 (List.all_eq_true.1 Et b (List.mem_range.2 hb)) i (List.mem_range.2 hi)
 exact beq_iff_eq.1 h
theorem ug {n : Nat} (h : n ≤ 6) : 2 ^ n ≤ 64:=by
 match n,h with
 | 0,_ | 1,_ | 2,_ | 3,_ | 4,_ | 5,_ | 6,_ => decide
theorem xr {f : List Int} {ps : List al} {k : Int} {b n : Nat} (hb : b < n) (h : ej ps (iH f b) k = true) : (dx f ps k n)[(dx f ps k b).length]? = some (iH f b):=by
 have e : dx f ps k n = dx f ps k (b + 1) ++ ((((List.range n).map (iH f)).drop (b + 1)).filter fun l => ej ps l k):=by
  unfold dx
  rw [← List.filter_append]
  congr 1
  have h1 : (List.range (b + 1)).map (iH f) = ((List.range n).map (iH f)).take (b + 1):=by
   rw [← List.map_take,List.take_range,Nat.min_eq_left (by omega)]
  rw [h1,List.take_append_drop]
 rw [e,jX,if_pos h,List.append_assoc,List.getElem?_append_right (Nat.le_refl _),Nat.sub_self]
 rfl
theorem tM (f : List Int) (ps : List al) (k : Int) : ae Tryz.prog 118 [au f,ak ps,.int .i64 k] (.clo 191 [.ref [au f],.ref [ak ps],.ref [.int .i64 k]]):=by
 refine ag aa Tryz.func118 rfl (by kernel_rfl) af (Nat.le_of_ble_eq_true rfl) ?_
 intro F n' w0 m0 hG hro h1
 repeat' first|refine Q1 ?_|refine Q2 ?_|refine Q3 hG aa om ?_|refine Q4 hG aa om ?_|refine Q5 hG aa ?_|refine Q6 hG aa ?_|refine Q7 hG aa ?_|refine Q8 hG aa ?_|refine Q9 rfl ?_|refine QF rfl ?_|refine QC rfl ⟨fun h => ?_,fun h => ?_⟩|((conv => whnf); first|refine anF ?_|refine anT ?_|refine anK ?_|refine And.intro (fun h => ?_) (fun h => ?_)|refine Or.inl ?_)
 all_goals exact Ends.mk (Or.inl rfl) (ac rfl)
set_option maxHeartbeats 8000000 in
theorem na (f : List Int) (ps : List al) (k : Int) (hf : f.length ≤ 6) (hps : ps.length ≤ 1000000) : lm Tryz.prog (fun l => [au l]) 191 [.ref [au f],.ref [ak ps],.ref [.int .i64 k]] (cm f ps k):=by
 have hfl : (f.map fun h => [AV.int .i64 h]).length = f.length:=List.length_map _
 have h64:=ug hf
 refine lm.of Tryz.func191 rfl (by kernel_rfl) af (Nat.le_of_ble_eq_true rfl) rfl ?_
 intro F n m y J Jx hY
 repeat' first|refine MPB.seq ?_|refine MPB.block ?_|refine MPB.reg hY aa dM (by kernel_rfl) ?_|refine MPB.skip ?_|refine MPB.label ?_|refine MPB.ret ?_|refine MPB.exit ?_|refine MPB.condT rfl ?_|refine MPB.condF rfl ?_|refine MPB.cond rfl (And.intro (fun h => ?_) (fun h => ?_))|((conv => whnf); first|refine anF ?_|refine anT ?_|refine anK ?_|refine And.intro (Int.natCast_nonneg _) ?_|refine And.intro (fun h => ?_) (fun h => ?_)|refine Or.inl ?_)
 refine MPB.loop (X:=Nat) (fun b => ((false,(dx f ps k b).length),⟨[(12,.int .i64 b),(11,.int .i64 ((2 ^ f.length : Nat) : Int)),(3,.ref [.int .i64 k]),(2,.ref [ak ps]),(1,.ref [au f]),(0,.lit (.func (.yield y) #[] #[]))],[]⟩)) (fun b => b ≤ 2 ^ f.length) (fun b => 2 ^ f.length - b) 0 (Nat.zero_le _) rfl (ah ?_ ?_) (fun b hb => ?_)
 ·refine And.intro rfl (And.intro (congrArg (fun z => some (AV.int .i64 z)) ?_) ?_)
  ·rw [hfl]; exact Bw hf
  ·repeat' (first | exact trivial | refine And.intro rfl ?_)
 ·repeat' (first | exact trivial | refine And.intro rfl ?_)
 ·by_cases hlt : b < 2 ^ f.length
  ·have bbk : decide ((b : Int) < ((2 ^ f.length : Nat) : Int)) = false → False:=fun h => by have:=of_decide_eq_false h; omega
   repeat' first|exact (bbk (by assumption)).elim|refine MPB.seq ?_|refine MPB.block ?_|refine MPB.reg hY aa dM (by kernel_rfl) ?_|refine MPB.skip ?_|refine MPB.label ?_|refine MPB.ret ?_|refine MPB.exit ?_|refine MPB.condT rfl ?_|refine MPB.condF rfl ?_|refine MPB.cond rfl (And.intro (fun h => ?_) (fun h => ?_))|((conv => whnf); first|refine anF ?_|refine anT ?_|refine anK ?_|refine And.intro (fun h => ?_) (fun h => ?_)|refine Or.inl ?_)
   refine MPB.loop (X:=Nat) (fun i => ((false,(dx f ps k b).length),⟨[(17,.int .i64 i),(6,.sl (.id 6) 1 ((fZ f b i).map fun h => [AV.int .i64 h])),(16,.int .i64 (f.map fun h => [AV.int .i64 h]).length),(15,au f),(5,.int .i64 b),(12,.int .i64 b),(11,.int .i64 ((2 ^ f.length : Nat) : Int)),(3,.ref [.int .i64 k]),(2,.ref [ak ps]),(1,.ref [au f]),(0,.lit (.func (.yield y) #[] #[]))],[]⟩)) (fun i => i ≤ f.length) (fun i => f.length - i) 0 (Nat.zero_le _) rfl (ah ?_ ?_) (fun i hi => ?_)
   ·repeat' (first | exact trivial | refine And.intro rfl ?_)
   ·repeat' (first | exact trivial | refine And.intro rfl ?_)
   ·by_cases hli : i < f.length
    ·have bbi : decide ((i : Int) < ((f.map fun h => [AV.int .i64 h]).length : Int)) = false → False:=fun h => by have:=of_decide_eq_false h; rw [hfl] at this; omega
     have hx : (f.map fun h => [AV.int .i64 h])[(i : Int).toNat]? = some [.int .i64 (f.getD i 0)]:=by simp [List.getElem?_eq_getElem hli]
     have hbit:=Fj (b:=b) (i:=i) (by omega) (by omega)
     have hst:=qO (b:=b) hli
     have hln : ((fZ f b i).map fun h => [AV.int .i64 h]).length ≤ 6:=by rw [List.length_map]; have:=iN f b i; omega
     generalize f.getD i 0 = v at hx hst
     repeat' first|exact (bbi (by assumption)).elim|refine MPB.seq ?_|refine MPB.block ?_|refine MPB.reg hY aa dM (by kernel_rfl) ?_|refine MPB.skip ?_|refine MPB.label ?_|refine MPB.ret ?_|refine MPB.exit ?_|refine MPB.condT rfl ?_|refine MPB.condF rfl ?_|refine MPB.cond rfl (And.intro (fun h => ?_) (fun h => ?_))|((conv => whnf); first|refine anF ?_|refine anT ?_|refine anK ?_|refine And.intro (Int.natCast_nonneg i) (Exists.intro _ (And.intro hx ?_))|refine And.intro (Int.natCast_nonneg i) ?_|refine And.intro (show (((fZ f b i).map fun h => [AV.int .i64 h]).length + 1) * 8 ≤ 70368744177664 by omega) (And.intro (show ((fZ f b i).map fun h => [AV.int .i64 h]).length + 1 ≤ 4611686018427387904 by omega) ?_)|refine And.intro (fun h => ?_) (fun h => ?_)|refine Or.inl ?_)
     ·have ht : uB b i = true:=by rw [← hbit]; assumption
      rw [if_pos ht] at hst
      refine Exists.intro (i + 1) (And.intro hli (And.intro (by omega) (And.intro rfl (ah ?_ ?_))))
      ·refine And.intro (congrArg some (ap (by omega))) (And.intro (congrArg (fun z => some (AV.sl (.id 6) 1 z)) ?_) ?_)
       ·rw [hst,List.map_append]; rfl
       ·repeat' (first | exact trivial | refine And.intro rfl ?_)
      ·repeat' (first | exact trivial | refine And.intro rfl ?_)
     ·have ht : uB b i = false:=by rw [← hbit]; assumption
      rw [if_neg (by rw [ht]; decide),List.append_nil] at hst
      refine Exists.intro (i + 1) (And.intro hli (And.intro (by omega) (And.intro rfl (ah ?_ ?_))))
      ·refine And.intro (congrArg some (ap (by omega))) (And.intro (congrArg (fun z => some (AV.sl (.id 6) 1 z)) ?_) ?_)
       ·rw [hst]
       ·repeat' (first | exact trivial | refine And.intro rfl ?_)
      ·repeat' (first | exact trivial | refine And.intro rfl ?_)
    ·have bbi : decide ((i : Int) < ((f.map fun h => [AV.int .i64 h]).length : Int)) = true → False:=fun h => by have:=of_decide_eq_true h; rw [hfl] at this; omega
     have he : i = f.length:=by omega
     have hsub : fZ f b i = iH f b:=by rw [he]; rfl
     rw [hsub]
     have hsl : (iH f b).length ≤ 1000000:=Nat.le_trans (iN f b f.length) (by omega)
     have hsucc:=jX f ps k b
     have hitem : ej ps (iH f b) k = true → (cm f ps k)[(dx f ps k b).length]? = some (iH f b):=xr hlt
     have cA:=uV ps (iH f b) k hsl hps
     generalize iH f b = u at *
     repeat' first|exact (bbi (by assumption)).elim|refine MPB.seq ?_|refine MPB.block ?_|refine MPB.reg hY aa dM (by kernel_rfl) ?_|refine MPB.skip ?_|refine MPB.label ?_|refine MPB.ret ?_|refine MPB.exit ?_|refine MPB.condT rfl ?_|refine MPB.condF rfl ?_|refine MPB.cond rfl (And.intro (fun h => ?_) (fun h => ?_))|((conv => whnf); first|refine anF ?_|refine anT ?_|refine anK ?_|refine Exists.intro _ (And.intro (cA) ?_)|refine And.intro (fun h => ?_) (fun h => ?_)|refine Or.inl ?_)
     ·have ha : ej ps u k = true:=by assumption
      rw [if_pos ha] at hsucc
      refine Exists.intro u (And.intro (hitem ha) (And.intro rfl (fun t ht => ?_)))
      subst ht
      refine And.intro ?_ ?_
      ·repeat' first|refine MPB.seq ?_|refine MPB.block ?_|refine MPB.reg hY aa dM (by kernel_rfl) ?_|refine MPB.skip ?_|refine MPB.label ?_|refine MPB.ret ?_|refine MPB.exit ?_|refine MPB.condT rfl ?_|refine MPB.condF rfl ?_|refine MPB.cond rfl (And.intro (fun h => ?_) (fun h => ?_))|((conv => whnf); first|refine anF ?_|refine anT ?_|refine anK ?_|refine And.intro (fun h => ?_) (fun h => ?_)|refine Or.inl ?_)
       refine Exists.intro (b + 1) (And.intro hlt (And.intro (by omega) (And.intro (congrArg (Prod.mk false) (by rw [hsucc]; simp)) (ah ?_ ?_))))
       ·refine And.intro (congrArg some (ap (by omega))) ?_
        repeat' (first | exact trivial | refine And.intro rfl ?_)
       ·repeat' (first | exact trivial | refine And.intro rfl ?_)
      ·repeat' first|refine MPB.seq ?_|refine MPB.block ?_|refine MPB.reg hY aa dM (by kernel_rfl) ?_|refine MPB.skip ?_|refine MPB.label ?_|refine MPB.ret ?_|refine MPB.exit ?_|refine MPB.condT rfl ?_|refine MPB.condF rfl ?_|refine MPB.cond rfl (And.intro (fun h => ?_) (fun h => ?_))|((conv => whnf); first|refine anF ?_|refine anT ?_|refine anK ?_|refine And.intro (fun h => ?_) (fun h => ?_)|refine Or.inl ?_)
       exact il.mk (Or.inl rfl) (Or.inr rfl)
     ·have ha : ej ps u k = false:=by assumption
      rw [if_neg (by rw [ha]; decide),List.append_nil] at hsucc
      refine Exists.intro (b + 1) (And.intro hlt (And.intro (by omega) (And.intro (congrArg (Prod.mk false) (by rw [hsucc])) (ah ?_ ?_))))
      ·refine And.intro (congrArg some (ap (by omega))) ?_
       repeat' (first | exact trivial | refine And.intro rfl ?_)
      ·repeat' (first | exact trivial | refine And.intro rfl ?_)
  ·have bbk : decide ((b : Int) < ((2 ^ f.length : Nat) : Int)) = true → False:=fun h => by have:=of_decide_eq_true h; omega
   have he : b = 2 ^ f.length:=by omega
   repeat' first|exact (bbk (by assumption)).elim|refine MPB.seq ?_|refine MPB.block ?_|refine MPB.reg hY aa dM (by kernel_rfl) ?_|refine MPB.skip ?_|refine MPB.label ?_|refine MPB.ret ?_|refine MPB.exit ?_|refine MPB.condT rfl ?_|refine MPB.condF rfl ?_|refine MPB.cond rfl (And.intro (fun h => ?_) (fun h => ?_))|((conv => whnf); first|refine anF ?_|refine anT ?_|refine anK ?_|refine And.intro (fun h => ?_) (fun h => ?_)|refine Or.inl ?_)
   exact il.mk (Or.inr rfl) (Or.inl (congrArg (Prod.mk false) (by rw [he]; rfl)))
def fW (l : List Opt) (ps : List al) (k : Int) : Bool:=decide ((l.length : Int) > 8) || (decide (k < 0) || (decide (k > 3) || (!bp ps || l.any fun o => !bz o ps)))
def dv (l : List Opt) (ps : List al) (k : Int) : Bool:=fW l ps k || decide (((aC l).length : Int) > 6)
def iO (l : List (List Int)) : AV:=.sl .no 1 (l.map fun x => [au x])
def sZ (l : List Opt) (ps : List al) (k : Int) : AV:=.tup (if dv l ps k then [.sl .full 0 [],.int .i64 210] else [iO (cm (aC l) ps k),.int .i64 0])
theorem sj (o : Opt) (ps : List al) (hl : o.sl.length ≤ 1000000) (hps : ps.length ≤ 1000000) : ae Tryz.prog 116 ((.agg (aH o)) :: [.ref [ak ps]]) (.bool (!bz o ps)):=by
 refine ag aa Tryz.func116 rfl (by kernel_rfl) af (Nat.le_of_ble_eq_true rfl) ?_
 intro F n' w0 m0 hG hro h1
 repeat' first|refine Q1 ?_|refine Q2 ?_|refine Q3 hG aa oo ?_|refine Q4 hG aa oo ?_|refine Q5 hG aa ?_|refine Q6 hG aa ?_|refine Q7 hG aa ?_|refine Q8 hG aa ?_|refine Q9 rfl ?_|refine QF rfl ?_|refine QC rfl ⟨fun h => ?_,fun h => ?_⟩|((conv => whnf); first|refine anF ?_|refine anT ?_|refine anK ?_|refine Exists.intro _ (And.intro (pK o ps hl hps) ?_)|refine And.intro (fun h => ?_) (fun h => ?_)|refine Or.inl ?_)
 all_goals exact Ends.mk (Or.inl rfl) (ac rfl)
theorem lS (l : List Opt) (ps : List al) (k : Int) (hl : l.length ≤ 1000000) (hs : fc l) (hps : ps.length ≤ 1000000) : ae Tryz.prog 48 [aM l,ak ps,.int .i64 k] (sZ l ps k):=by
 have cB:=jc l (fun o => !bz o ps) 116 _ [.ref [ak ps]] (Or.inl rfl) hl (fun o ho => sj o ps (hs o ho) hps)
 have hlm : ((l.map aH).length : Int) = (l.length : Int):=by rw [List.length_map]
 have hfm : (((aC l).map fun h => [AV.int .i64 h]).length : Int) = ((aC l).length : Int):=by rw [List.length_map]
 refine ag aa Tryz.func48 rfl (by kernel_rfl) af (Nat.le_of_ble_eq_true rfl) ?_
 intro F n' w0 m0 hG hro h1
 repeat' first|refine Q1 ?_|refine Q2 ?_|refine Q3 hG aa ek ?_|refine Q4 hG aa ek ?_|refine Q5 hG aa ?_|refine Q6 hG aa ?_|refine Q7 hG aa ?_|refine Q8 hG aa ?_|refine Q9 rfl ?_|refine QF rfl ?_|refine QC rfl ⟨fun h => ?_,fun h => ?_⟩|((conv => whnf); first|refine anF ?_|refine anT ?_|refine anK ?_|refine Exists.intro _ (And.intro (eV ps hps) ?_)|refine Exists.intro _ (And.intro (cB) ?_)|refine Exists.intro _ (And.intro (fT l hl hs) ?_)|refine Exists.intro _ (And.intro (tM _ _ _) ?_)|refine And.intro (fun h => ?_) (fun h => ?_)|refine Or.inl ?_)
 all_goals first
  |(refine Ends.mk (Or.inl rfl) (ac ?_)
    have h : dv l ps k = true:=by clear hG; grind [dv,fW]
    simp only [sZ,h,if_true]; rfl)
  | skip
 have hnb : dv l ps k = false:=by clear hG; grind [dv,fW]
 have hf6 : (aC l).length ≤ 6:=by
  simp only [dv,Bool.or_eq_false_iff,decide_eq_false_iff_not] at hnb; omega
 have hseq:=na (aC l) ps k hf6 hps
 have hlen : (cm (aC l) ps k).length ≤ 64:=by
  unfold cm dx
  refine Nat.le_trans (List.length_filter_le _ _) ?_
  rw [List.length_map,List.length_range]; exact ug hf6
 rw [sZ,hnb,if_neg (by decide)]
 generalize cm (aC l) ps k = items at hseq hlen
 refine SPB.resize 6 0 1006000 1 rfl rfl ?_
 conv => whnf
 refine ⟨SP.rangeM hG hro (Nat.le_trans (by decide) h1) (α:=List Int) (fun l => [au l]) (f:=191) (cap:=[.ref [au (aC l)],.ref [ak ps],.ref [.int .i64 k]]) (items:=items) rfl hseq (fun _ => rfl) (fun _ => [(6,.loc 6 0)]) [6] (fun _ => rfl)
  (fun p => [(6,[.sl (.id 1006000) 1 (p.map fun x => [au x])])]) (ah ?_ ?_) (by kernel_rfl) (by decide) ?_ ?_⟩
 ·repeat' (first | exact trivial | refine And.intro rfl ?_)
 ·repeat' (first | exact trivial | refine And.intro rfl ?_)
 ·intro F' n'' m' hG' pre x rest hx
  clear hG
  have hG:=hG'
  have hpl : pre.length < 64:=by
   have:=congrArg List.length hx
   simp at this; omega
  have hrow : (pre ++ [x]).map (fun x => [au x]) = pre.map (fun x => [au x]) ++ [[au x]]:=by simp
  have hln : (pre.map fun x => [au x]).length < 64:=by simpa using hpl
  generalize (pre.map fun x => [au x]) = row at hrow hln
  refine SPB.out (Q4 hG aa ek ?_)
  conv => whnf
  refine And.intro rfl (And.intro (ah ?_ ?_) ?_)
  ·repeat' (first | exact trivial | refine And.intro rfl ?_)
  ·repeat' (first | exact trivial | refine And.intro rfl ?_)
  refine SPB.out ?_
  repeat' first|refine Q1 ?_|refine Q2 ?_|refine Q3 hG aa ek ?_|refine Q4 hG aa ek ?_|refine Q5 hG aa ?_|refine Q6 hG aa ?_|refine Q7 hG aa ?_|refine Q8 hG aa ?_|refine Q9 rfl ?_|refine QF rfl ?_|refine QC rfl ⟨fun h => ?_,fun h => ?_⟩|((conv => whnf); first|refine anF ?_|refine anT ?_|refine anK ?_|refine And.intro (show (row.length + 1) * 24 ≤ 70368744177664 by omega) (And.intro (show row.length + 1 ≤ 4611686018427387904 by omega) ?_)|refine And.intro (fun h => ?_) (fun h => ?_)|refine Or.inl ?_)
  refine ah ?_ ?_
  ·repeat' (first | exact trivial | refine And.intro rfl ?_)
  ·dsimp only; rw [hrow]; repeat' (first | exact trivial | refine And.intro rfl ?_)
 ·conv => whnf
  repeat' first|refine Q1 ?_|refine Q2 ?_|refine Q3 hG aa ek ?_|refine Q4 hG aa ek ?_|refine Q5 hG aa ?_|refine Q6 hG aa ?_|refine Q7 hG aa ?_|refine Q8 hG aa ?_|refine Q9 rfl ?_|refine QF rfl ?_|refine QC rfl ⟨fun h => ?_,fun h => ?_⟩|((conv => whnf); first|refine anF ?_|refine anT ?_|refine anK ?_|refine And.intro (fun h => ?_) (fun h => ?_)|refine Or.inl ?_)
  all_goals exact Ends.mk (Or.inl rfl) (ac rfl)
end Go.Proofs
namespace Go.Proofs
open Go Go.AI
set_option maxRecDepth 10000
def mJ (o : Opt) (k : Nat) : Img:=if k < o.sl.length then ⟨o.id,o.size,o.a,(eh o k).b⟩ else ⟨o.id,o.size,o.a,ff o⟩
def oP (o : Opt) (k : Nat) : Opt:=if k < o.sl.length then { o with sl:=o.sl.take (k + 1) } else o
theorem tw : ∀ (l : List aU) (t : Int),eO t l = true → ∀ x ∈ l,t ≤ x.a ∧ x.a < x.b
 | [],_,_,x,hx => nomatch hx
 | y :: r,t,h,x,hx => by
  simp only [eO,jz,Bool.and_eq_true,decide_eq_true_eq] at h
  rcases List.mem_cons.1 hx with rfl | hx
  ·omega
  ·have:=tw r y.b h.2 x hx
   omega
theorem qZ : ∀ (l pre : List Img),fB pre l = true ↔ (∀ x ∈ l,(0 ≤ x.i ∧ x.i ≤ 63) ∧ (1 ≤ x.u ∧ x.u ≤ 1000000) ∧ 0 ≤ x.a ∧ x.a < x.b ∧ x.b ≤ 1000001) ∧ l.Pairwise (fun x y => x.i ≠ y.i) ∧ ∀ p ∈ pre,∀ x ∈ l,p.i ≠ x.i
 | [],pre => by simp [fB]
 | x :: r,pre => by
  rw [fB,Bool.and_eq_true,qZ r (pre ++ [x]),mC,lz]
  simp only [inM,spM,Bool.and_eq_true,Bool.not_eq_true',decide_eq_true_eq,List.any_eq_false,beq_iff_eq,List.mem_cons,List.pairwise_cons,forall_eq_or_imp,List.mem_append,List.not_mem_nil,or_false]
  constructor
  ·rintro ⟨⟨g1,g2,g3,g4⟩,g5,g6,g7⟩
   exact ⟨⟨⟨g1,g3,g4.1,g4.2.1,g4.2.2⟩,g5⟩,⟨fun y hy => g7 x (.inr rfl) y hy,g6⟩,fun p hp => ⟨fun e => g2 p hp e,fun y hy => g7 p (.inl hp) y hy⟩⟩
  ·rintro ⟨⟨⟨g1,g3,g4,g4',g4''⟩,g5⟩,⟨g6,g7⟩,g8⟩
   refine ⟨⟨g1,fun p hp e => (g8 p hp).1 e,g3,g4,g4',g4''⟩,g5,g7,fun p hp y hy => ?_⟩
   rcases hp with hp | rfl
   ·exact (g8 p hp).2 y hy
   ·exact g6 y hy
theorem yD {o : Opt} {k : Nat} (h : k < o.sl.length) : eh o k ∈ o.sl:=by
 unfold eh
 rw [List.getD_eq_getElem?_getD,List.getElem?_eq_getElem h]
 exact List.getElem_mem h
end Go.Proofs
