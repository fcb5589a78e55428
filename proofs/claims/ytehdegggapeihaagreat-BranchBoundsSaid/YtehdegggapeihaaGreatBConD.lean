/- Contracts of the functions and plain facts about what they reckon, part 4: called with arguments that read so, each hands back what is typed. The conditions are those typed. -/
import Derived.Test.YtehdegggapeihaaGreatBConC
import Derived.Lib.SlicesCompact
import Derived.Shelf.Lays
import Derived.Shelf.Lays2
set_option linter.unusedSectionVars false
set_option linter.unusedVariables false
set_option linter.unusedSimpArgs false
namespace Go.Proofs
open Go Go.AI
set_option maxRecDepth 10000
theorem fp (c n : Int) (hn : n ≠ 0) : ae Tryz.prog 44 [.int .i64 c, .int .i64 n] (.int .i64 (al c n)) := by
  refine ag aa Tryz.func44 rfl (by kernel_rfl) af (Nat.le_of_ble_eq_true rfl) ?_
  intro F n' w0 m0 hG hro h1
  repeat' first|refine Q1 ?_|refine Q2 ?_|refine Q3 hG aa qy (by kernel_rfl) ?_|refine Q4 hG aa qy (by kernel_rfl) ?_|refine Q5 hG aa ?_|refine Q6 hG aa ?_|refine Q7 hG aa ?_|refine Q8 hG aa ?_|refine Q9 rfl ?_|refine QF rfl ?_|refine QC rfl (And.intro (fun h => ?_) (fun h => ?_))|((conv => whnf); first|refine anF ?_|refine anT ?_|refine And.intro (by kernel_rfl) ?_|refine And.intro hn ?_|refine And.intro (fun h => ?_) (fun h => ?_)|refine Or.inl ?_|fail)
  all_goals refine Ends.mk (Or.inl rfl) (ac (congrArg (AV.int .i64) ?_))
  all_goals (simp_all [al, w64] <;> omega)
end Go.Proofs
namespace Go.Proofs
open Go Go.AI
set_option maxRecDepth 10000
namespace bi
def ga (c : bi) : Int := al c.from_ 900000
def gb (c : bi) : Int := c.ga + 240
def gps (c : bi) : List ak := fU (c.s 0) c.ga c.z
def gl (c : bi) : List Opt := yB c.s c.gps c.ga 10 c.v
end bi
theorem bi.grng (c : bi) : 0 ≤ c.ga ∧ c.ga < 900000 := aI c.hf (n := 900000) (by omega)
theorem bi.gpasses (c : bi) : bP c.gps = true ∧ c.gps.length ≤ 6 ∧ ∀ p ∈ c.gps, c.ga ≤ p.sa ∧ p.sa < p.sb ∧ p.sb ≤ c.ga + 186 :=
  zj (by rw [c.s0]; omega) (by have := c.grng; omega) c.hz
theorem bi.goptH (c : bi) : Ex c.s c.gps c.ga 10 := by
  obtain ⟨h1, h2, h3, _⟩ := yr c.sat
  have hr := c.grng
  obtain ⟨p1, p2, p3⟩ := c.gpasses
  exact ⟨h1, h2, h3, by omega, by omega, by omega, fun p hp => by have := p3 p hp; omega⟩
theorem bi.glen (c : bi) : c.gl.length ≤ 5 := Nat.le_trans (lW _ _ _ _ _ _) (Nat.min_le_right _ _)
theorem bi.gvalid (c : bi) : aO c.s c.gl c.gps c.ga c.gb = true := by
  obtain ⟨p1, p2, p3⟩ := c.gpasses
  have hr := c.grng
  have hl := c.glen
  refine aS.2 ⟨by omega, by unfold bi.gb; omega, by unfold bi.gb; omega, c.sat, p1, fun o ho => ?_, rq c.hv _ (Nat.min_le_left _ _)⟩
  obtain ⟨h1, h2, _⟩ := lV c.hv _ (Nat.min_le_left _ _) o ho
  have hf : dh c.s o c.gps = true := by simp only [fz, Bool.and_eq_true] at h1; exact h1.2
  refine ⟨hf, h2, zN (fun p hp => ?_) (by omega) hf⟩
  have := p3 p hp
  unfold bi.gb; omega
theorem jT (c : bi) : ae Tryz.prog 42 [.agg (gL c)] (.tup [.agg (aX c.s), aM c.gl, am c.gps, .agg (aF c.ga c.gb)]) := by
  have cA : ae Tryz.prog 44 [.int .i64 c.from_, .int .i64 900000] (.int .i64 c.ga) := fp _ _ (by decide)
  have cS : ae Tryz.prog 69 [.int .i64 3, .agg (ls c.x), .agg (i4A c.y)] (.agg (aX c.s)) := Cd c.x c.y (CX c.hx)
  have hr := c.grng
  have cP : ae Tryz.prog 70 [.int .i64 3, .int .i64 c.ga, .sl .no 3 (c.z.map jX)] (am c.gps) := by
    have h := wC (c.s 0) c.ga c.z (by rw [c.s0]; omega) (by omega) c.hz
    rw [c.s0] at h
    have e : c.gps = fU 3 c.ga c.z := by unfold bi.gps; rw [c.s0]
    rw [e]; exact h
  have cO : ae Tryz.prog 71 [.agg (aX c.s), am c.gps, .int .i64 c.ga, .int .i64 10, .sl .no 5 (c.v.map fO)] (aM c.gl) := uY c.s c.gps c.ga 10 c.v c.goptH c.hv
  have hb : IntKind.i64.wrap (c.ga + 240) = c.gb := ap (by omega) (by omega)
  generalize c.gb = b at *
  generalize c.ga = a at *
  generalize c.s = s at *
  generalize c.gps = ps at *
  generalize c.gl = l at *
  refine ag aa Tryz.func42 rfl (by kernel_rfl) af (Nat.le_of_ble_eq_true rfl) ?_
  intro F n' w0 m0 hG hro h1
  repeat' first|refine Q1 ?_|refine Q2 ?_|refine Q3 hG aa qz (by kernel_rfl) ?_|refine Q4 hG aa qz (by kernel_rfl) ?_|refine Q5 hG aa ?_|refine Q6 hG aa ?_|refine Q7 hG aa ?_|refine Q8 hG aa ?_|refine Q9 rfl ?_|refine QF rfl ?_|refine QC rfl (And.intro (fun h => ?_) (fun h => ?_))|((conv => whnf); first|refine anF ?_|refine anT ?_|refine And.intro (by kernel_rfl) ?_|refine Exists.intro _ (And.intro (cA) ?_)|refine Exists.intro _ (And.intro (cS) ?_)|refine Exists.intro _ (And.intro (cP) ?_)|refine Exists.intro _ (And.intro (cO) ?_)|refine And.intro (fun h => ?_) (fun h => ?_)|refine Or.inl ?_|fail)
  all_goals exact Ends.mk (Or.inl rfl) (ac (congrArg (fun z => AV.tup [.agg (aX s), aM l, am ps, .agg (aF a z)]) hb))
end Go.Proofs
namespace Go.Proofs
open Go Go.AI
def asc (l : List Int) : Prop := l.Pairwise (· < ·)
theorem uQ : ∀ {l m : List Int}, asc l → asc m → (∀ x, x ∈ l ↔ x ∈ m) → l = m
  | [], [], _, _, _ => rfl
  | [], y :: m, _, _, h => absurd ((h y).2 List.mem_cons_self) (by simp)
  | x :: l, [], _, _, h => absurd ((h x).1 List.mem_cons_self) (by simp)
  | x :: l, y :: m, hl, hm, h => by
    obtain ⟨hl1, hl2⟩ := List.pairwise_cons.1 hl
    obtain ⟨hm1, hm2⟩ := List.pairwise_cons.1 hm
    have e : x = y := by
      rcases List.mem_cons.1 ((h x).1 List.mem_cons_self) with h1 | h1
      · exact h1
      · rcases List.mem_cons.1 ((h y).2 List.mem_cons_self) with h2 | h2
        · exact h2.symm
        · have := hl1 y h2; have := hm1 x h1; omega
    subst e
    rw [uQ hl2 hm2 fun z => ?_]
    constructor
    · intro hz
      rcases List.mem_cons.1 ((h z).1 (List.mem_cons_of_mem _ hz)) with h1 | h1
      · have := hl1 z hz; omega
      · exact h1
    · intro hz
      rcases List.mem_cons.1 ((h z).2 (List.mem_cons_of_mem _ hz)) with h1 | h1
      · have := hm1 z hz; omega
      · exact h1
theorem tH (d : Array Int) : ∀ j : Nat, ∃ k, k ≤ j ∧ Lib.keeps d k = true ∧ d[k]! = d[j]!
  | 0 => ⟨0, Nat.le_refl _, by simp [Lib.keeps], rfl⟩
  | j + 1 => by
    by_cases h : d[j + 1]! = d[j]!
    · obtain ⟨k, h1, h2, h3⟩ := tH d j
      exact ⟨k, by omega, h2, by rw [h3, h]⟩
    · exact ⟨j + 1, Nat.le_refl _, by simp only [Lib.keeps, Nat.add_sub_cancel, decide_eq_true_eq]; exact .inr h, rfl⟩
theorem ux {zs : List Int} {x : Int} : x ∈ Lib.compact zs ↔ x ∈ zs := by
  unfold Lib.compact Lib.compactUpTo
  simp only [List.mem_map, List.mem_filter, List.mem_range]
  constructor
  · rintro ⟨j, ⟨hj, _⟩, rfl⟩
    simp [hj]
  · intro h
    obtain ⟨j, hj, rfl⟩ := List.getElem_of_mem h
    obtain ⟨k, h1, h2, h3⟩ := tH zs.toArray j
    exact ⟨k, ⟨by omega, h2⟩, by rw [h3]; simp [hj]⟩
theorem wt {zs : List Int} (h : zs.Pairwise (· ≤ ·)) : asc (Lib.compact zs) := by
  have hmono : ∀ i j, i ≤ j → j < zs.length → zs.toArray[i]! ≤ zs.toArray[j]! := fun i j hij hj => by
    rcases Nat.lt_or_eq_of_le hij with h1 | h1
    · have := List.pairwise_iff_getElem.1 h i j (by omega) hj h1
      simpa [hj, show i < zs.length by omega] using this
    · subst h1; exact Int.le_refl _
  unfold asc Lib.compact Lib.compactUpTo
  rw [List.pairwise_map]
  refine List.Pairwise.imp_of_mem ?_ ((List.pairwise_lt_range (n := zs.length)).filter (Lib.keeps zs.toArray))
  intro i j hi hj hij
  obtain ⟨_, _⟩ := List.mem_filter.1 hi
  obtain ⟨h1, h2⟩ := List.mem_filter.1 hj
  rw [List.mem_range] at h1
  simp only [Lib.keeps, decide_eq_true_eq] at h2
  rcases h2 with h2 | h2
  · omega
  · have h3 := hmono i (j - 1) (by omega) (by omega)
    have h4 := hmono (j - 1) j (by omega) h1
    omega
def sR (l : List Opt) : List Int := (l.take 8).flatMap fun o => (o.sl.take 6).map (·.p)
def sortI (l : List Int) : List Int := l.mergeSort fun x y => decide (x ≤ y)
def aw (l : List Opt) : List Int := Lib.compact (sortI (sR l))
theorem AG (l : List Int) : (sortI l).Pairwise (· ≤ ·) := by
  have h := List.pairwise_mergeSort (le := fun x y : Int => decide (x ≤ y)) (fun a b c h1 h2 => by simp at *; omega) (fun a b => by simp; omega) l
  exact h.imp fun h => by simpa using h
theorem iJ (l : List Opt) : asc (aw l) := wt (AG _)
theorem pi {l : List Opt} {x : Int} : x ∈ aw l ↔ x ∈ sR l := by
  unfold aw sortI
  rw [ux, List.mem_mergeSort]
def vo (l : List Int) (n : Int) : List Int := if (l.dropWhile (fun x => decide (x < n))).head? = some n then l else l.takeWhile (fun x => decide (x < n)) ++ n :: l.dropWhile (fun x => decide (x < n))
theorem xI {l : List Int} {n y : Int} (h : (l.dropWhile fun x => decide (x < n)).head? = some y) : ¬ y < n := by
  have := List.head?_dropWhile_not (fun x => decide (x < n)) l
  rw [h] at this
  simpa using this
theorem A2 {l : List Int} {n x : Int} : x ∈ vo l n ↔ x ∈ l ∨ x = n := by
  unfold vo
  have e := List.takeWhile_append_dropWhile (p := fun x => decide (x < n)) (l := l)
  split
  · rename_i h
    have hm : n ∈ l := by
      rw [← e, List.mem_append]
      exact .inr (List.mem_of_mem_head? (by rw [h]; rfl))
    constructor
    · exact .inl
    · rintro (h | h)
      · exact h
      · rw [h]; exact hm
  · have : x ∈ l ↔ x ∈ l.takeWhile (fun x => decide (x < n)) ∨ x ∈ l.dropWhile (fun x => decide (x < n)) := by
      rw [← List.mem_append, e]
    rw [this]
    simp only [List.mem_append, List.mem_cons]
    constructor
    · rintro (h | h | h)
      · exact .inl (.inl h)
      · exact .inr h
      · exact .inl (.inr h)
    · rintro ((h | h) | h)
      · exact .inl h
      · exact .inr (.inr h)
      · exact .inr (.inl h)
theorem BG {l : List Int} {n : Int} (hl : asc l) : asc (vo l n) := by
  unfold vo
  split
  · exact hl
  · rename_i hne
    have e := List.takeWhile_append_dropWhile (p := fun x => decide (x < n)) (l := l)
    have hl2 : asc (l.takeWhile (fun x => decide (x < n)) ++ l.dropWhile (fun x => decide (x < n))) := by rw [e]; exact hl
    obtain ⟨h1, h2, h3⟩ := List.pairwise_append.1 hl2
    have ht : ∀ x ∈ l.takeWhile (fun x => decide (x < n)), x < n := fun x hx => by
      have := List.all_eq_true.1 (List.all_takeWhile (l := l) (p := fun x => decide (x < n))) x hx
      simpa using this
    have hd : ∀ y ∈ l.dropWhile (fun x => decide (x < n)), n < y := by
      cases hdw : l.dropWhile (fun x => decide (x < n)) with
      | nil => simp
      | cons z r =>
        rw [hdw] at hne h2
        have hz : ¬ z < n := xI (l := l) (n := n) (y := z) (by rw [hdw]; rfl)
        have hz2 : z ≠ n := fun e => hne (by simp [e])
        intro y hy
        rcases List.mem_cons.1 hy with h | h
        · omega
        · have := (List.pairwise_cons.1 h2).1 y h; omega
    refine List.pairwise_append.2 ⟨h1, List.pairwise_cons.2 ⟨hd, h2⟩, fun x hx y hy => ?_⟩
    rcases List.mem_cons.1 hy with h | h
    · rw [h]; exact ht x hx
    · have := ht x hx; have := hd y h; omega
theorem rW : ∀ (r l : List Int), asc l → asc (r.foldl vo l) ∧ ∀ x, x ∈ r.foldl vo l ↔ x ∈ l ∨ x ∈ r
  | [], l, hl => ⟨hl, fun x => by simp⟩
  | n :: r, l, hl => by
    obtain ⟨h1, h2⟩ := rW r (vo l n) (BG hl)
    refine ⟨h1, fun x => ?_⟩
    rw [List.foldl_cons, h2, A2, List.mem_cons, or_assoc]
theorem zg (l : List Opt) : (sR l).foldl vo [] = aw l := by
  obtain ⟨h1, h2⟩ := rW (sR l) [] List.Pairwise.nil
  exact uQ h1 (iJ l) fun x => by rw [h2, pi]; simp
def pE (b i : Nat) : Bool := decide (b / 2 ^ i % 2 = 1)
def ck (f : List Int) (b i : Nat) : List Int := (List.range i).filterMap fun j => if pE b j then f[j]? else none
def dK (f : List Int) (b : Nat) : List Int := ck f b f.length
theorem jw {f : List Int} {b i : Nat} (h : i < f.length) : ck f b (i + 1) = ck f b i ++ (if pE b i then [f.getD i 0] else []) := by
  unfold ck
  rw [List.range_succ, List.filterMap_append]
  congr 1
  simp only [List.filterMap_cons, List.filterMap_nil]
  split
  · rename_i h1
    split at h1
    · simp [List.getElem?_eq_getElem h] at h1
    · rename_i h2; rw [if_neg (by simpa using h2)]
  · rename_i h1
    split at h1
    · rename_i h2
      rw [if_pos (by simpa using h2), List.getD_eq_getElem?_getD, h1]; rfl
    · cases h1
theorem o5 (f : List Int) (b i : Nat) : (ck f b i).length ≤ i := by
  unfold ck
  exact Nat.le_trans (List.length_filterMap_le _ _) (by simp)
def aQ (l : List Int) (i : Nat) : Int := l.getD i 0
def pm (n : Nat) (l : List Int) (i : Nat) : Bool := decide (0 ≤ aQ l i) && decide (aQ l i < n) && (decide (i = 0) || decide (aQ l (i - 1) < aQ l i))
def lr (ps : List ak) (l : List Int) : Bool := (List.range l.length).all (pm ps.length l) && bP ps
def cp (ps : List ak) (p : Int) : Int := (aJ ps p.toNat).ca.tdiv 1440
def jR (l : List Int) (d : Int) : Nat := (l.filter fun x => decide (x = d)).length
def tB (ds : List Int) : Nat := ds.foldl (fun n d => max n (jR ds d)) 0
def ry (ps : List ak) (l : List Int) : Nat := tB (l.map (cp ps))
def rD (k : Int) : Bool := decide (0 ≤ k) && decide (k ≤ 3)
def bN (ps : List ak) (l : List Int) (k : Int) : Bool := rD k && lr ps l && decide ((ry ps l : Int) ≤ k)
def dy (f : List Int) (ps : List ak) (k : Int) (n : Nat) : List (List Int) := ((List.range n).map (dK f)).filter fun l => bN ps l k
def aY (f : List Int) (ps : List ak) (k : Int) : List (List Int) := dy f ps k (2 ^ f.length)
theorem gV (f : List Int) (ps : List ak) (k : Int) (n : Nat) : dy f ps k (n + 1) = dy f ps k n ++ (if bN ps (dK f n) k then [dK f n] else []) := by
  unfold dy
  rw [List.range_succ, List.map_append, List.filter_append]
  congr 1
  simp only [List.map_cons, List.map_nil, List.filter_cons, List.filter_nil]
def gY (ds : List Int) : Nat → Nat
  | 0 => 0
  | i + 1 => max (gY ds i) (jR (ds.take (i + 1)) (ds.getD i 0))
theorem np (ds : List Int) (i : Nat) (d : Int) : jR (ds.take i) d ≤ jR ds d := by
  unfold jR
  exact (((List.take_sublist i ds).filter _).length_le)
theorem nh {α : Type} (f : α → Nat) : ∀ (l : List α) (n b : Nat), n ≤ b → (∀ x ∈ l, f x ≤ b) → l.foldl (fun n d => max n (f d)) n ≤ b
  | [], n, b, h, _ => h
  | x :: l, n, b, h, hx => nh f l _ b (Nat.max_le.2 ⟨h, hx x List.mem_cons_self⟩) fun y hy => hx y (List.mem_cons_of_mem _ hy)
theorem lH {α : Type} (f : α → Nat) : ∀ (l : List α) (n : Nat), n ≤ l.foldl (fun n d => max n (f d)) n
  | [], n => Nat.le_refl _
  | x :: l, n => Nat.le_trans (Nat.le_max_left _ _) (lH f l _)
theorem jL {α : Type} (f : α → Nat) : ∀ (l : List α) (n : Nat) (x : α), x ∈ l → f x ≤ l.foldl (fun n d => max n (f d)) n
  | y :: l, n, x, h => by
    rcases List.mem_cons.1 h with h | h
    · subst h; exact Nat.le_trans (Nat.le_max_right _ _) (lH f l _)
    · exact jL f l _ x h
theorem rz (ds : List Int) : ∀ i, i ≤ ds.length → gY ds i ≤ tB ds
  | 0, _ => Nat.zero_le _
  | i + 1, h => by
    refine Nat.max_le.2 ⟨rz ds i (by omega), Nat.le_trans (np _ _ _) ?_⟩
    refine jL (jR ds) ds 0 _ ?_
    rw [List.getD_eq_getElem?_getD, List.getElem?_eq_getElem (show i < ds.length by omega)]
    exact List.getElem_mem _
theorem tP {ds : List Int} {d : Int} : ∀ i, i ≤ ds.length → jR (ds.take i) d ≤ gY ds i
  | 0, _ => by simp [jR]
  | i + 1, h => by
    have hi : i < ds.length := by omega
    have e : ds.take (i + 1) = ds.take i ++ [ds.getD i 0] := by
      rw [List.take_add_one, List.getD_eq_getElem?_getD, List.getElem?_eq_getElem hi]; rfl
    by_cases hd : ds.getD i 0 = d
    · show _ ≤ max _ _
      rw [hd]; exact Nat.le_max_right _ _
    · have : jR (ds.take (i + 1)) d = jR (ds.take i) d := by
        have e2 : List.filter (fun x => decide (x = d)) [ds.getD i 0] = [] := by
          rw [List.filter_cons_of_neg (by simpa using hd)]; rfl
        rw [e]; unfold jR; rw [List.filter_append, e2, List.append_nil]
      rw [this]
      exact Nat.le_trans (tP i (by omega)) (Nat.le_max_left _ _)
theorem xx (ds : List Int) : gY ds ds.length = tB ds := by
  refine Nat.le_antisymm (rz ds _ (Nat.le_refl _)) ?_
  refine nh _ _ _ _ (Nat.zero_le _) fun x _ => ?_
  have := tP (ds := ds) (d := x) ds.length (Nat.le_refl _)
  rwa [List.take_length] at this
end Go.Proofs
namespace Go.Proofs
open Go Go.Shelf
def s8 : Go.Shelf.Ren := ⟨fun | 189 => 114 | 125 => 190 | 257 => 189 | 128 => 250 | 129 => 251 | 294 => 241 | 295 => 242 | 296 => 243 | 297 => 244 | 298 => 245 | 299 => 246 | 216 => 247 | 300 => 248 | 301 => 249 | 328 => 291 | 329 => 292 | 330 => 293 | 331 => 294 | 332 => 295 | 215 => 167 | 343 => 312 | n => n, fun | 28 => 79 | 3 => 3 | 46 => 254 | 0 => 0 | 51 => 299 | 53 => 301 | 4 => 4 | 183 => 293 | 182 => 292 | 131 => 118 | 5 => 5 | 9 => 9 | 218 => 325 | 222 => 329 | 228 => 346 | 229 => 347 | n => n, fun | n => n⟩
theorem t6 : Lays.n189 Tryz.prog s8 where
  mixed := by kernel_rfl
  f125 := Tryz.func190.trans (congrArg some (by kernel_rfl))
  f128 := Tryz.func250.trans (congrArg some (by kernel_rfl))
  f129 := Tryz.func251.trans (congrArg some (by kernel_rfl))
  f189 := Tryz.func114.trans (congrArg some (by kernel_rfl))
  f215 := Tryz.func167.trans (congrArg some (by kernel_rfl))
  f216 := Tryz.func247.trans (congrArg some (by kernel_rfl))
  f257 := Tryz.func189.trans (congrArg some (by kernel_rfl))
  f294 := Tryz.func241.trans (congrArg some (by kernel_rfl))
  f295 := Tryz.func242.trans (congrArg some (by kernel_rfl))
  f296 := Tryz.func243.trans (congrArg some (by kernel_rfl))
  f297 := Tryz.func244.trans (congrArg some (by kernel_rfl))
  f298 := Tryz.func245.trans (congrArg some (by kernel_rfl))
  f299 := Tryz.func246.trans (congrArg some (by kernel_rfl))
  f300 := Tryz.func248.trans (congrArg some (by kernel_rfl))
  f301 := Tryz.func249.trans (congrArg some (by kernel_rfl))
  f328 := Tryz.func291.trans (congrArg some (by kernel_rfl))
  f329 := Tryz.func292.trans (congrArg some (by kernel_rfl))
  f330 := Tryz.func293.trans (congrArg some (by kernel_rfl))
  f331 := Tryz.func294.trans (congrArg some (by kernel_rfl))
  f332 := Tryz.func295.trans (congrArg some (by kernel_rfl))
  f343 := Tryz.func312.trans (congrArg some (by kernel_rfl))
  t0 := Tryz.underlying0
  a0 := Tryz.isAgg0
  z0 := Tryz.sizeOf0
  v0 := Tryz.zeroValue0
  t3 := Tryz.underlying3
  a3 := Tryz.isAgg3
  z3 := Tryz.sizeOf3
  v3 := Tryz.zeroValue3
  t4 := Tryz.underlying4
  a4 := Tryz.isAgg4
  z4 := Tryz.sizeOf4
  v4 := Tryz.zeroValue4
  t5 := Tryz.underlying5
  a5 := Tryz.isAgg5
  z5 := Tryz.sizeOf5
  v5 := Tryz.zeroValue5
  t9 := Tryz.underlying9
  a9 := Tryz.isAgg9
  z9 := Tryz.sizeOf9
  v9 := Tryz.zeroValue9
  t28 := Tryz.underlying79
  a28 := Tryz.isAgg79
  z28 := Tryz.sizeOf79
  v28 := Tryz.zeroValue79
  t46 := Tryz.underlying254
  a46 := Tryz.isAgg254
  z46 := Tryz.sizeOf254
  v46 := Tryz.zeroValue254
  t51 := Tryz.underlying299
  a51 := Tryz.isAgg299
  z51 := Tryz.sizeOf299
  v51 := Tryz.zeroValue299
  t53 := Tryz.underlying301
  a53 := Tryz.isAgg301
  z53 := Tryz.sizeOf301
  v53 := Tryz.zeroValue301
  t131 := Tryz.underlying118
  a131 := Tryz.isAgg118
  z131 := Tryz.sizeOf118
  v131 := Tryz.zeroValue118
  t182 := Tryz.underlying292
  a182 := Tryz.isAgg292
  z182 := Tryz.sizeOf292
  v182 := Tryz.zeroValue292
  t183 := Tryz.underlying293
  a183 := Tryz.isAgg293
  z183 := Tryz.sizeOf293
  v183 := Tryz.zeroValue293
  t218 := Tryz.underlying325
  a218 := Tryz.isAgg325
  z218 := Tryz.sizeOf325
  v218 := Tryz.zeroValue325
  t222 := Tryz.underlying329
  a222 := Tryz.isAgg329
  z222 := Tryz.sizeOf329
  v222 := Tryz.zeroValue329
  t228 := Tryz.underlying346
  a228 := Tryz.isAgg346
  z228 := Tryz.sizeOf346
  v228 := Tryz.zeroValue346
  t229 := Tryz.underlying347
  a229 := Tryz.isAgg347
  z229 := Tryz.sizeOf347
  v229 := Tryz.zeroValue347
end Go.Proofs
namespace Go.Proofs
open Go Go.Shelf
def ta : Go.Shelf.Ren := ⟨fun | 20 => 115 | n => n, fun | 22 => 79 | 3 => 3 | 4 => 4 | 0 => 0 | n => n, fun | n => n⟩
theorem t8 : Lays2.n20 Tryz.prog ta where
  mixed := by kernel_rfl
  f20 := Tryz.func115.trans (congrArg some (by kernel_rfl))
  t0 := Tryz.underlying0
  a0 := Tryz.isAgg0
  z0 := Tryz.sizeOf0
  v0 := Tryz.zeroValue0
  t3 := Tryz.underlying3
  a3 := Tryz.isAgg3
  z3 := Tryz.sizeOf3
  v3 := Tryz.zeroValue3
  t4 := Tryz.underlying4
  a4 := Tryz.isAgg4
  z4 := Tryz.sizeOf4
  v4 := Tryz.zeroValue4
  t22 := Tryz.underlying79
  a22 := Tryz.isAgg79
  z22 := Tryz.sizeOf79
  v22 := Tryz.zeroValue79
  i3 := by kernel_rfl
end Go.Proofs
namespace Go.Proofs
open Go Go.AI
set_option maxRecDepth 10000
theorem ld {l : List Int} {i : Nat} (h : i < l.length) : (l.map fun h => [AV.int .i64 h])[(i : Int).toNat]? = some [.int .i64 (aQ l i)] := by simp [aQ, List.getElem?_eq_getElem h]
theorem ww (p : Nat → Bool) (n : Nat) : (List.range (n + 1)).all p = ((List.range n).all p && p n) := by rw [List.range_succ, List.all_append]; simp
theorem AK {ps : List ak} {l : List Int} {i : Nat} (hi : i < l.length) (h : pm ps.length l i = false) : lr ps l = false := by
  unfold lr
  rw [Bool.and_eq_false_iff]
  refine .inl ?_
  rw [List.all_eq_false]
  exact ⟨i, List.mem_range.2 hi, by rw [h]; simp⟩
theorem u3 (k : Int) : ae Tryz.prog 252 [.int .i64 k] (.bool (rD k)) := by
  refine ag aa Tryz.func252 rfl (by kernel_rfl) af (Nat.le_of_ble_eq_true rfl) ?_
  intro F n' w0 m0 hG hro h1
  repeat' first|refine Q1 ?_|refine Q2 ?_|refine Q3 hG aa nN (by kernel_rfl) ?_|refine Q4 hG aa nN (by kernel_rfl) ?_|refine Q5 hG aa ?_|refine Q6 hG aa ?_|refine Q7 hG aa ?_|refine Q8 hG aa ?_|refine Q9 rfl ?_|refine QF rfl ?_|refine QC rfl (And.intro (fun h => ?_) (fun h => ?_))|((conv => whnf); first|refine anF ?_|refine anT ?_|refine And.intro (by kernel_rfl) ?_|refine And.intro (fun h => ?_) (fun h => ?_)|refine Or.inl ?_|fail)
  all_goals refine Ends.mk (Or.inl rfl) (ac (congrArg AV.bool ?_))
  all_goals (clear hG; grind [rD])
set_option maxHeartbeats 4000000 in
theorem sG (ps : List ak) (l : List Int) (hl : l.length ≤ 1000000) (hps : ps.length ≤ 1000000) : ae Tryz.prog 253 [am ps, aq l] (.bool (lr ps l)) := by
  have hpl : ((ps.map aP).length : Int) = (ps.length : Int) := by rw [List.length_map]
  refine ag aa Tryz.func253 rfl (by kernel_rfl) af (Nat.le_of_ble_eq_true rfl) ?_
  intro F n' w0 m0 hG hro h1
  repeat' first|refine Q1 ?_|refine Q2 ?_|refine Q3 hG aa d9 (by kernel_rfl) ?_|refine Q4 hG aa d9 (by kernel_rfl) ?_|refine Q5 hG aa ?_|refine Q6 hG aa ?_|refine Q7 hG aa ?_|refine Q8 hG aa ?_|refine Q9 rfl ?_|refine QF rfl ?_|refine QC rfl (And.intro (fun h => ?_) (fun h => ?_))|((conv => whnf); first|refine anF ?_|refine anT ?_|refine And.intro (by kernel_rfl) ?_|refine And.intro (fun h => ?_) (fun h => ?_)|refine Or.inl ?_|fail)
  refine az (X := Nat) (fun x => ⟨[(9, .int .i64 x), (8, .int .i64 (l.map fun h => [AV.int .i64 h]).length), (7, aq l), (1, aq l), (0, am ps)], []⟩) (fun x => x ≤ l.length ∧ (List.range x).all (pm ps.length l) = true) (fun x => l.length - x) 0 ⟨Nat.zero_le _, rfl⟩ (ah ?_ ?_) (fun x hx => ?_)
  · repeat' (first | exact trivial | refine And.intro rfl ?_)
  · repeat' (first | exact trivial | refine And.intro rfl ?_)
  · rename Nat => i
    obtain ⟨hi, ht⟩ := hx
    by_cases hlt_i : i < l.length
    · have bbk : decide ((i : Int) < ((l.map fun h => [AV.int .i64 h]).length : Int)) = false → False := fun h => by have := of_decide_eq_false h; simp at this; omega
      have hx := ld hlt_i
      have hw : (i : Int) > 0 → IntKind.i64.wrap ((i : Int) - 1) = ((i - 1 : Nat) : Int) := fun h => (ap (by omega) (by omega)).trans (by omega)
      have hp0 : decide ((i : Int) > 0) = true → 0 ≤ IntKind.i64.wrap ((i : Int) - 1) := fun h => by rw [hw (of_decide_eq_true h)]; omega
      have hp : decide ((i : Int) > 0) = true → (l.map fun h => [AV.int .i64 h])[(IntKind.i64.wrap ((i : Int) - 1)).toNat]? = some [.int .i64 (aQ l (i - 1))] := fun h => by rw [hw (of_decide_eq_true h)]; exact ld (by omega)
      have hok : pm ps.length l i = (decide (0 ≤ aQ l i) && decide (aQ l i < ps.length) && (decide (i = 0) || decide (aQ l (i - 1) < aQ l i))) := rfl
      generalize aQ l (i - 1) = v at hp hok
      generalize aQ l i = u at hx hok
      repeat' first|exact (bbk (by assumption)).elim|refine Q1 ?_|refine Q2 ?_|refine Q3 hG aa d9 (by kernel_rfl) ?_|refine Q4 hG aa d9 (by kernel_rfl) ?_|refine Q5 hG aa ?_|refine Q6 hG aa ?_|refine Q7 hG aa ?_|refine Q8 hG aa ?_|refine Q9 rfl ?_|refine QF rfl ?_|refine QC rfl (And.intro (fun h => ?_) (fun h => ?_))|((conv => whnf); first|refine anF ?_|refine anT ?_|refine And.intro (by kernel_rfl) ?_|refine And.intro (Int.natCast_nonneg i) (Exists.intro _ (And.intro hx ?_))|refine And.intro (hp0 (by assumption)) (Exists.intro _ (And.intro (hp (by assumption)) ?_))|refine And.intro (fun h => ?_) (fun h => ?_)|refine Or.inl ?_|fail)
      all_goals first
        | (refine Ends.mk (Or.inl rfl) (ac (congrArg AV.bool ?_))
           exact (AK hlt_i (by rw [hok]; clear hG; grind)).symm)
        | skip
      all_goals (refine Exists.intro (i + 1) (And.intro ?_ (And.intro (by omega) (ah ?_ ?_))))
      all_goals first
        | (refine And.intro (congrArg some (ax (by omega))) ?_
           repeat' (first | exact trivial | refine And.intro rfl ?_))
        | ((repeat' (first | exact trivial | refine And.intro rfl ?_)); done)
        | (exact ⟨hlt_i, by rw [ww, ht, hok]; clear hG; grind⟩)
    · have bbk : decide ((i : Int) < ((l.map fun h => [AV.int .i64 h]).length : Int)) = true → False := fun h => by have := of_decide_eq_true h; simp at this; omega
      have he : i = l.length := by omega
      rw [he] at ht
      repeat' first|exact (bbk (by assumption)).elim|refine Q1 ?_|refine Q2 ?_|refine Q3 hG aa d9 (by kernel_rfl) ?_|refine Q4 hG aa d9 (by kernel_rfl) ?_|refine Q5 hG aa ?_|refine Q6 hG aa ?_|refine Q7 hG aa ?_|refine Q8 hG aa ?_|refine Q9 rfl ?_|refine QF rfl ?_|refine QC rfl (And.intro (fun h => ?_) (fun h => ?_))|((conv => whnf); first|refine anF ?_|refine anT ?_|refine And.intro (by kernel_rfl) ?_|refine Exists.intro _ (And.intro (eu ps hps) ?_)|refine And.intro (fun h => ?_) (fun h => ?_)|refine Or.inl ?_|fail)
      exact Ends.mk (Or.inl rfl) (ac (congrArg AV.bool (by rw [lr, ht, Bool.true_and])))
theorem AS {ps : List ak} (h : bP ps = true) {i : Nat} (hi : i < ps.length) : 0 ≤ (aJ ps i).ca ∧ (aJ ps i).ca ≤ 1000001 := by
  have h2 : cn (aJ ps i) = true := by
    simp only [bP, Bool.and_eq_true, Bool.not_eq_true', List.any_eq_false] at h
    have := h.1.2 (aJ ps i) (by unfold aJ; rw [List.getD_eq_getElem?_getD, List.getElem?_eq_getElem hi]; exact List.getElem_mem hi)
    simpa using this
  simp only [cn, Bool.and_eq_true, decide_eq_true_eq] at h2
  omega
def jQ (ds : List Int) (i : Nat) : List (Int × Int) := (ds.take i).foldl (fun t d => lq d (gR t d + 1) t) []
theorem lg (x y z : Int) : ∀ l : List (Int × Int), gR (lq x y l) z = if x = z then y else gR l z
  | [] => by simp [lq, gR]
  | p :: r => by
    by_cases h : p.1 = x
    · simp only [lq, if_pos h, gR]
      by_cases h2 : x = z
      · rw [if_pos h2, if_pos h2]
      · rw [if_neg h2, if_neg h2, if_neg (by rw [h]; exact h2)]
    · simp only [lq, if_neg h, gR, lg x y z r]
      by_cases h2 : x = z
      · subst h2; simp [h]
      · simp [h2]
theorem gq {ds : List Int} {i : Nat} (h : i < ds.length) : ds.take (i + 1) = ds.take i ++ [ds.getD i 0] := by
  rw [List.take_add_one, List.getD_eq_getElem?_getD, List.getElem?_eq_getElem h]; rfl
theorem qd {ds : List Int} {i : Nat} (h : i < ds.length) : jQ ds (i + 1) = lq (ds.getD i 0) (gR (jQ ds i) (ds.getD i 0) + 1) (jQ ds i) := by
  unfold jQ; rw [gq h, List.foldl_append]; rfl
theorem jP (ds : List Int) (z : Int) : ∀ i, i ≤ ds.length → gR (jQ ds i) z = (jR (ds.take i) z : Int)
  | 0, _ => by simp [jQ, jR, gR]
  | i + 1, h => by
    rw [qd h, lg, jP ds z i (by omega), jP ds _ i (by omega), gq h]
    unfold jR
    rw [List.filter_append, List.length_append]
    by_cases hz : ds.getD i 0 = z
    · have e2 : List.filter (fun x => decide (x = z)) [ds.getD i 0] = [ds.getD i 0] := by rw [List.filter_cons_of_pos (by simpa using hz)]; rfl
      rw [if_pos hz, hz] at *; rw [e2]; simp
    · have e2 : List.filter (fun x => decide (x = z)) [ds.getD i 0] = [] := by rw [List.filter_cons_of_neg (by simpa using hz)]; rfl
      rw [if_neg hz, e2]; simp
theorem Bu (l : List Int) (d : Int) : jR l d ≤ l.length := List.length_filter_le _ _
theorem mC : ∀ t, t = 312 → u5 Tryz.prog t := by
  rintro _ rfl
  exact ⟨_, _, rfl, rfl, fun w => rfl⟩
theorem yn {ps : List ak} {l : List Int} (h : lr ps l = true) {i : Nat} (hi : i < l.length) : 0 ≤ aQ l i ∧ aQ l i < ps.length := by
  have h := (Bool.and_eq_true_iff.1 h).1
  rw [List.all_eq_true] at h
  have := h i (List.mem_range.2 hi)
  simp only [pm, Bool.and_eq_true, decide_eq_true_eq] at this
  exact this.1
set_option maxHeartbeats 4000000 in
theorem Ak (ps : List ak) (l : List Int) (hl : l.length ≤ 1000000) (hset : lr ps l = true) : ae Tryz.prog 254 [am ps, aq l] (.int .i64 (ry ps l)) := by
  have hps2 : bP ps = true := by simp only [lr, Bool.and_eq_true] at hset; exact hset.2
  refine ag aa Tryz.func254 rfl (by kernel_rfl) af (Nat.le_of_ble_eq_true rfl) ?_
  intro F n' w0 m0 hG hro h1
  repeat' first|refine Q1 ?_|refine Q2 ?_|refine Q3 hG aa d8 (by kernel_rfl) ?_|refine Q4 hG aa d8 (by kernel_rfl) ?_|refine Q5 hG aa ?_|refine Q6 hG aa ?_|refine Q7 hG aa ?_|refine Q8 hG aa ?_|refine Q9 rfl ?_|refine QF rfl ?_|refine QC rfl (And.intro (fun h => ?_) (fun h => ?_))|((conv => whnf); first|refine anF ?_|refine anT ?_|refine And.intro (by kernel_rfl) ?_|refine fun b => ?_|refine And.intro (fun h => ?_) (fun h => ?_)|refine Or.inl ?_|fail)
  refine az (X := Nat) (fun x => ⟨[(12, .int .i64 x), (4, .int .i64 (gY (l.map (cp ps)) x)), (xk 9, .me .ents 9 b (gw (jQ (l.map (cp ps)) x))), (11, .int .i64 (l.map fun h => [AV.int .i64 h]).length), (10, aq l), (5, .lit (.map (some b))), (1, aq l), (0, am ps)], []⟩) (fun x => x ≤ l.length) (fun x => l.length - x) 0 (Nat.zero_le _) (ah ?_ ?_) (fun x hx => ?_)
  · repeat' (first | exact trivial | refine And.intro rfl ?_)
  · repeat' (first | exact trivial | refine And.intro rfl ?_)
  · rename Nat => i
    have hi := hx
    by_cases hlt_i : i < l.length
    · have bbk : decide ((i : Int) < ((l.map fun h => [AV.int .i64 h]).length : Int)) = false → False := fun h => by have := of_decide_eq_false h; simp at this; omega
      have hx := ld hlt_i
      obtain ⟨h0, h1⟩ := yn hset hlt_i
      have hy := ez (l := ps) (i := (aQ l i).toNat) (by omega)
      have hday : cp ps (aQ l i) = (aJ ps (aQ l i).toNat).ca.tdiv 1440 := rfl
      have hdi : (l.map (cp ps)).getD i 0 = cp ps (aQ l i) := by simp [aQ, List.getElem?_eq_getElem hlt_i]
      have hdl : i < (l.map (cp ps)).length := by simpa using hlt_i
      have hs := qd hdl
      have hg := jP (l.map (cp ps)) (cp ps (aQ l i)) i (by omega)
      have hg2 := jP (l.map (cp ps)) (cp ps (aQ l i)) (i + 1) (by omega)
      have hm : gY (l.map (cp ps)) (i + 1) = max (gY (l.map (cp ps)) i) (jR ((l.map (cp ps)).take (i + 1)) ((l.map (cp ps)).getD i 0)) := rfl
      have hcl := Bu ((l.map (cp ps)).take i) (cp ps (aQ l i))
      rw [List.length_take] at hcl
      rw [hdi] at hs hm
      have hwd : IntKind.i64.wrap ((aJ ps (aQ l i).toNat).ca.tdiv 1440) = cp ps (aQ l i) := by
        rw [hday]; have h3 := AS hps2 (i := (aQ l i).toNat) (by omega)
        rw [Int.tdiv_eq_ediv_of_nonneg h3.1]
        exact ap (by omega) (by omega)
      have hw1 : IntKind.i64.wrap (gR (jQ (l.map (cp ps)) i) (cp ps (aQ l i)) + 1) = gR (jQ (l.map (cp ps)) i) (cp ps (aQ l i)) + 1 := ap (by omega) (by omega)
      generalize aJ ps (aQ l i).toNat = p at hy hwd
      generalize aQ l i = u at *
      repeat' first|exact (bbk (by assumption)).elim|refine Q1 ?_|refine Q2 ?_|refine Q3 hG aa d8 (by kernel_rfl) ?_|refine SPB.regM hG aa (M := fun t => t = 312) mC d8 (by kernel_rfl) ?_|refine Q5 hG aa ?_|refine Q6 hG aa ?_|refine Q7 hG aa ?_|refine Q8 hG aa ?_|refine Q9 rfl ?_|refine QF rfl ?_|refine QC rfl (And.intro (fun h => ?_) (fun h => ?_))|((conv => whnf); first|refine anF ?_|refine anT ?_|refine And.intro (by kernel_rfl) ?_|refine And.intro (Int.natCast_nonneg i) (Exists.intro _ (And.intro hx ?_))|refine And.intro h0 (Exists.intro _ (And.intro hy ?_))|refine And.intro (of_decide_eq_true (Eq.refl true)) ?_|refine Exists.intro 9 (Exists.intro _ (And.intro rfl ?_))|refine And.intro (fun h => ?_) (fun h => ?_)|refine Or.inl ?_|fail)
      conv => whnf
      rw [hs, lg, if_pos rfl] at hg2
      refine Exists.intro (i + 1) (And.intro hlt_i (And.intro (by omega) (ah ?_ ?_)))
      · refine And.intro (congrArg some (ax (by omega))) (And.intro (congrArg (fun z => some (AV.int .i64 z)) ?_) (And.intro (congrArg (fun z => some (AV.me .ents 9 b (gw z))) ?_) ?_))
        · rw [hwd, hw1, lg, if_pos rfl, hm, hg2]
          show max _ _ = _
          omega
        · rw [hwd, hw1]; exact hs.symm
        · repeat' (first | exact trivial | refine And.intro rfl ?_)
      · repeat' (first | exact trivial | refine And.intro rfl ?_)
    · have bbk : decide ((i : Int) < ((l.map fun h => [AV.int .i64 h]).length : Int)) = true → False := fun h => by have := of_decide_eq_true h; simp at this; omega
      have he : i = (l.map (cp ps)).length := by rw [List.length_map]; omega
      have hr : gY (l.map (cp ps)) i = ry ps l := by rw [he]; exact xx _
      rw [hr]
      repeat' first|exact (bbk (by assumption)).elim|refine Q1 ?_|refine Q2 ?_|refine Q3 hG aa d8 (by kernel_rfl) ?_|refine Q4 hG aa d8 (by kernel_rfl) ?_|refine Q5 hG aa ?_|refine Q6 hG aa ?_|refine Q7 hG aa ?_|refine Q8 hG aa ?_|refine Q9 rfl ?_|refine QF rfl ?_|refine QC rfl (And.intro (fun h => ?_) (fun h => ?_))|((conv => whnf); first|refine anF ?_|refine anT ?_|refine And.intro (by kernel_rfl) ?_|refine And.intro (fun h => ?_) (fun h => ?_)|refine Or.inl ?_|fail)
      exact Ends.mk (Or.inl rfl) (ac rfl)
end Go.Proofs
namespace Go.Proofs
open Go Go.AI
set_option maxRecDepth 10000
def inP (l : List Int) (x : Int) : Bool := l.any fun y => x == y
theorem qE (l : List Int) (x : Int) (hl : l.length ≤ 1000000) : ae Tryz.prog 196 [aq l, .int .i64 x] (.int .i64 (bM (fun y => x == y) l 0)) := by
  refine ag aa Tryz.func196 rfl (by kernel_rfl) af (Nat.le_of_ble_eq_true rfl) ?_
  intro F n' w0 m0 hG hro h1
  repeat' first|refine Q1 ?_|refine Q2 ?_|refine Q3 hG aa ec (by kernel_rfl) ?_|refine Q4 hG aa ec (by kernel_rfl) ?_|refine Q5 hG aa ?_|refine Q6 hG aa ?_|refine Q7 hG aa ?_|refine Q8 hG aa ?_|refine Q9 rfl ?_|refine QF rfl ?_|refine QC rfl (And.intro (fun h => ?_) (fun h => ?_))|((conv => whnf); first|refine anF ?_|refine anT ?_|refine And.intro (by kernel_rfl) ?_|refine And.intro (fun h => ?_) (fun h => ?_)|refine Or.inl ?_|fail)
  refine az (X := Nat) (fun i => ⟨[(8, .int .i64 i), (7, .int .i64 (l.map fun h => [AV.int .i64 h]).length), (1, .int .i64 x), (0, aq l)], []⟩) (fun i => i ≤ l.length ∧ bM (fun y => x == y) (l.drop i) i = bM (fun y => x == y) l 0) (fun j => l.length - j) 0 ⟨Nat.zero_le _, by simp⟩ (ah ?_ ?_) (fun i hx => ?_)
  · repeat' (first | exact trivial | refine And.intro rfl ?_)
  · repeat' (first | exact trivial | refine And.intro rfl ?_)
  · obtain ⟨hi, ht⟩ := hx
    by_cases hlt_i : i < l.length
    · have bbk : decide ((i : Int) < ((l.map fun h => [AV.int .i64 h]).length : Int)) = false → False := fun h => by have := of_decide_eq_false h; simp at this; omega
      have hx := ld hlt_i
      have hst := aT (p := fun y => x == y) (d := 0) (j := i) hlt_i
      have hst : bM (fun y => x == y) (l.drop i) i = if (x == aQ l i) = true then (i : Int) else bM (fun y => x == y) (l.drop (i + 1)) (i + 1) := hst
      generalize aQ l i = u at hx hst
      repeat' first|exact (bbk (by assumption)).elim|refine Q1 ?_|refine Q2 ?_|refine Q3 hG aa ec (by kernel_rfl) ?_|refine Q4 hG aa ec (by kernel_rfl) ?_|refine Q5 hG aa ?_|refine Q6 hG aa ?_|refine Q7 hG aa ?_|refine Q8 hG aa ?_|refine Q9 rfl ?_|refine QF rfl ?_|refine QC rfl (And.intro (fun h => ?_) (fun h => ?_))|((conv => whnf); first|refine anF ?_|refine anT ?_|refine And.intro (by kernel_rfl) ?_|refine And.intro (Int.natCast_nonneg i) (Exists.intro _ (And.intro hx ?_))|refine And.intro (fun h => ?_) (fun h => ?_)|refine Or.inl ?_|fail)
      all_goals first
        | (refine Ends.mk (Or.inl rfl) (ac (congrArg (AV.int .i64) ?_))
           rw [← ht, hst, if_pos (by assumption)])
        | skip
      all_goals (refine Exists.intro (i + 1) (And.intro ?_ (And.intro (by omega) (ah ?_ ?_))))
      all_goals first
        | (refine And.intro (congrArg some (ax (by omega))) ?_
           repeat' (first | exact trivial | refine And.intro rfl ?_))
        | ((repeat' (first | exact trivial | refine And.intro rfl ?_)); done)
        | (exact ⟨hlt_i, by rw [← ht, hst, if_neg (fun h => tf h (by assumption))]⟩)
    · have bbk : decide ((i : Int) < ((l.map fun h => [AV.int .i64 h]).length : Int)) = true → False := fun h => by have := of_decide_eq_true h; simp at this; omega
      have he : i = l.length := by omega
      rw [he, List.drop_length] at ht
      repeat' first|exact (bbk (by assumption)).elim|refine Q1 ?_|refine Q2 ?_|refine Q3 hG aa ec (by kernel_rfl) ?_|refine Q4 hG aa ec (by kernel_rfl) ?_|refine Q5 hG aa ?_|refine Q6 hG aa ?_|refine Q7 hG aa ?_|refine Q8 hG aa ?_|refine Q9 rfl ?_|refine QF rfl ?_|refine QC rfl (And.intro (fun h => ?_) (fun h => ?_))|((conv => whnf); first|refine anF ?_|refine anT ?_|refine And.intro (by kernel_rfl) ?_|refine And.intro (fun h => ?_) (fun h => ?_)|refine Or.inl ?_|fail)
      exact Ends.mk (Or.inl rfl) (ac (congrArg (AV.int .i64) ht))
theorem kU (l : List Int) (x : Int) (hl : l.length ≤ 1000000) : ae Tryz.prog 121 [aq l, .int .i64 x] (.bool (inP l x)) := by
  refine ag aa Tryz.func121 rfl (by kernel_rfl) af (Nat.le_of_ble_eq_true rfl) ?_
  intro F n' w0 m0 hG hro h1
  repeat' first|refine Q1 ?_|refine Q2 ?_|refine Q3 hG aa oK (by kernel_rfl) ?_|refine Q4 hG aa oK (by kernel_rfl) ?_|refine Q5 hG aa ?_|refine Q6 hG aa ?_|refine Q7 hG aa ?_|refine Q8 hG aa ?_|refine Q9 rfl ?_|refine QF rfl ?_|refine QC rfl (And.intro (fun h => ?_) (fun h => ?_))|((conv => whnf); first|refine anF ?_|refine anT ?_|refine And.intro (by kernel_rfl) ?_|refine Exists.intro _ (And.intro (qE l x hl) ?_)|refine And.intro (fun h => ?_) (fun h => ?_)|refine Or.inl ?_|fail)
  all_goals exact Ends.mk (Or.inl rfl) (ac (congrArg AV.bool (dG _ l 0)))
theorem wG (l : List Int) (hl : l.length ≤ 1000000) : ae Tryz.prog 197 [aq l] (aq l) := by
  rcases l with _ | ⟨x, l⟩
  · refine ag aa Tryz.func197 rfl (by kernel_rfl) af (Nat.le_of_ble_eq_true rfl) ?_
    intro F n' w0 m0 hG hro h1
    repeat' first|refine Q1 ?_|refine Q2 ?_|refine Q3 hG aa gd (by kernel_rfl) ?_|refine SPB.regM hG aa (M := fun t => t = 312) mC gd (by kernel_rfl) ?_|refine Q5 hG aa ?_|refine Q6 hG aa ?_|refine Q7 hG aa ?_|refine Q8 hG aa ?_|refine Q9 rfl ?_|refine QF rfl ?_|refine QC rfl (And.intro (fun h => ?_) (fun h => ?_))|((conv => whnf); first|refine anF ?_|refine anT ?_|refine And.intro (by kernel_rfl) ?_|refine And.intro (Nat.le_of_ble_eq_true rfl) (And.intro (Nat.le_of_ble_eq_true rfl) ?_)|refine And.intro (fun _ => ?_) ?_|refine And.intro (fun h => ?_) (fun h => ?_)|refine Or.inl ?_|fail)
    all_goals (first | exact Ends.mk (Or.inl rfl) (ac rfl) | (dsimp only; exact Ends.mk (Or.inl rfl) (ac rfl)) | (show AI.Ends _ _ _ _ _; exact Ends.mk (Or.inl rfl) (ac rfl)))
  · have hr1 : (([] : List (List AV)).length + ((x :: l).map fun h => [AV.int .i64 h]).length) * 8 ≤ 70368744177664 := by simp at hl ⊢; omega
    have hr2 : ([] : List (List AV)).length + ((x :: l).map fun h => [AV.int .i64 h]).length ≤ 4611686018427387904 := by simp at hl ⊢; omega
    refine ag aa Tryz.func197 rfl (by kernel_rfl) af (Nat.le_of_ble_eq_true rfl) ?_
    intro F n' w0 m0 hG hro h1
    repeat' first|refine Q1 ?_|refine Q2 ?_|refine Q3 hG aa gd (by kernel_rfl) ?_|refine SPB.regM hG aa (M := fun t => t = 312) mC gd (by kernel_rfl) ?_|refine Q5 hG aa ?_|refine Q6 hG aa ?_|refine Q7 hG aa ?_|refine Q8 hG aa ?_|refine Q9 rfl ?_|refine QF rfl ?_|refine QC rfl (And.intro (fun h => ?_) (fun h => ?_))|((conv => whnf); first|refine anF ?_|refine anT ?_|refine And.intro (by kernel_rfl) ?_|refine And.intro (fun h => absurd h (by simp)) ?_|refine And.intro hr1 (And.intro hr2 ?_)|refine And.intro (fun h => ?_) (fun h => ?_)|refine Or.inl ?_|fail)
    all_goals (first | exact Ends.mk (Or.inl rfl) (ac rfl) | (dsimp only; exact Ends.mk (Or.inl rfl) (ac rfl)) | (show AI.Ends _ _ _ _ _; exact Ends.mk (Or.inl rfl) (ac rfl)))
theorem u4 (ps : List ak) (l : List Int) (k : Int) (hl : l.length ≤ 1000000) (hps : ps.length ≤ 1000000) : ae Tryz.prog 192 [am ps, aq l, .int .i64 k] (.bool (bN ps l k)) := by
  refine ag aa Tryz.func192 rfl (by kernel_rfl) af (Nat.le_of_ble_eq_true rfl) ?_
  intro F n' w0 m0 hG hro h1
  repeat' first|refine Q1 ?_|refine Q2 ?_|refine Q3 hG aa n5 (by kernel_rfl) ?_|refine Q4 hG aa n5 (by kernel_rfl) ?_|refine Q5 hG aa ?_|refine Q6 hG aa ?_|refine Q7 hG aa ?_|refine Q8 hG aa ?_|refine Q9 rfl ?_|refine QF rfl ?_|refine QC rfl (And.intro (fun h => ?_) (fun h => ?_))|((conv => whnf); first|refine anF ?_|refine anT ?_|refine And.intro (by kernel_rfl) ?_|refine Exists.intro _ (And.intro (u3 k) ?_)|refine Exists.intro _ (And.intro (sG ps l hl hps) ?_)|refine Exists.intro _ (And.intro (Ak ps l hl (by assumption)) ?_)|refine And.intro (fun h => ?_) (fun h => ?_)|refine Or.inl ?_|fail)
  all_goals refine Ends.mk (Or.inl rfl) (ac (congrArg AV.bool ?_))
  all_goals (clear hG; grind [bN])
def slL (ps : List ak) (t : Int) (x : a8) : Bool := !decide (x.p < 0) && !decide (x.p ≥ (ps.length : Int)) && !decide (x.a < max t (aJ ps x.p.toNat).sa) && !decide (x.a ≥ x.b) && !decide (x.b > (aJ ps x.p.toNat).sb)
def sN (ps : List ak) : Int → List a8 → Bool
  | _, [] => true
  | t, x :: r => slL ps t x && sN ps x.b r
def eU (o : Opt) (ps : List ak) : Bool := !decide ((o.sl.length : Int) < 1) && !decide ((o.sl.length : Int) > 6) && bP ps && sN ps 0 o.sl
theorem zb {ps : List ak} {t : Int} {l : List a8} {i : Nat} (h : i < l.length) : sN ps t (l.drop i) = (slL ps t (l.getD i ⟨0, 0, 0⟩) && sN ps (l.getD i ⟨0, 0, 0⟩).b (l.drop (i + 1))) := by
  rw [List.drop_eq_getElem_cons h, List.getD_eq_getElem?_getD, List.getElem?_eq_getElem h]; rfl
set_option maxHeartbeats 4000000 in
theorem qh (o : Opt) (ps : List ak) (hl : o.sl.length ≤ 1000000) (hps : ps.length ≤ 1000000) : ae Tryz.prog 117 [.agg (aK o), am ps] (.bool (eU o ps)) := by
  have hlm : ((o.sl.map aG).length : Int) = (o.sl.length : Int) := by rw [List.length_map]
  have hpm : ((ps.map aP).length : Int) = (ps.length : Int) := by rw [List.length_map]
  refine ag aa Tryz.func117 rfl (by kernel_rfl) af (Nat.le_of_ble_eq_true rfl) ?_
  intro F n' w0 m0 hG hro h1
  repeat' first|refine Q1 ?_|refine Q2 ?_|refine Q3 hG aa ee (by kernel_rfl) ?_|refine Q4 hG aa ee (by kernel_rfl) ?_|refine Q5 hG aa ?_|refine Q6 hG aa ?_|refine Q7 hG aa ?_|refine Q8 hG aa ?_|refine Q9 rfl ?_|refine QF rfl ?_|refine QC rfl (And.intro (fun h => ?_) (fun h => ?_))|((conv => whnf); first|refine anF ?_|refine anT ?_|refine And.intro (by kernel_rfl) ?_|refine Exists.intro _ (And.intro (eu ps hps) ?_)|refine And.intro (fun h => ?_) (fun h => ?_)|refine Or.inl ?_|fail)
  all_goals first
    | (refine Ends.mk (Or.inl rfl) (ac (congrArg AV.bool ?_))
       (rw [hlm] at *; clear hG; grind [eU]))
    | skip
  have hval : eU o ps = sN ps 0 o.sl := by rw [hlm] at *; clear hG; grind [eU]
  rw [hval]
  refine az (X := Nat × Int) (fun x => ⟨[(27, .int .i64 x.1), (5, .int .i64 x.2), (26, .int .i64 (o.sl.map aG).length), (25, .sl .no 3 (o.sl.map aG)), (2, .loc 2 0), (1, am ps)], [(2, aK o)]⟩) (fun x => x.1 ≤ o.sl.length ∧ sN ps x.2 (o.sl.drop x.1) = sN ps 0 o.sl) (fun x => o.sl.length - x.1) (0, 0) ⟨Nat.zero_le _, rfl⟩ (ah ?_ ?_) (fun x hx => ?_)
  · repeat' (first | exact trivial | refine And.intro rfl ?_)
  · repeat' (first | exact trivial | refine And.intro rfl ?_)
  · obtain ⟨i, e⟩ := x
    obtain ⟨hi, hf⟩ := hx
    simp only at hi hf ⊢
    by_cases hlt_i : i < o.sl.length
    · have bbk : decide ((i : Int) < ((o.sl.map aG).length : Int)) = false → False := fun h => by have := of_decide_eq_false h; simp at this; omega
      have hx := fT hlt_i
      rw [zb hlt_i] at hf
      generalize o.sl.getD i ⟨0, 0, 0⟩ = x at hx hf
      have bad : slL ps e x = false → false = sN ps 0 o.sl := fun h => by rw [← hf, h, Bool.false_and]
      have hin : decide (x.p < 0) = false → decide (x.p ≥ ((ps.map aP).length : Int)) = false → 0 ≤ x.p ∧ (ps.map aP)[x.p.toNat]? = some (aP (aJ ps x.p.toNat)) := fun h1 h2 => by
        have h1 := of_decide_eq_false h1
        have h2 := of_decide_eq_false h2
        rw [hpm] at h2
        exact ⟨by omega, ez (by omega)⟩
      repeat' first|exact (bbk (by assumption)).elim|refine Q1 ?_|refine Q2 ?_|refine Q3 hG aa ee (by kernel_rfl) ?_|refine Q4 hG aa ee (by kernel_rfl) ?_|refine Q5 hG aa ?_|refine Q6 hG aa ?_|refine Q7 hG aa ?_|refine Q8 hG aa ?_|refine Q9 rfl ?_|refine QF rfl ?_|refine QC rfl (And.intro (fun h => ?_) (fun h => ?_))|((conv => whnf); first|refine anF ?_|refine anT ?_|refine And.intro (by kernel_rfl) ?_|refine And.intro (Int.natCast_nonneg i) (Exists.intro _ (And.intro hx ?_))|refine And.intro (hin (by assumption) (by assumption)).1 (Exists.intro _ (And.intro (hin (by assumption) (by assumption)).2 ?_))|refine And.intro (fun h => ?_) (fun h => ?_)|refine Or.inl ?_|fail)
      all_goals first
        | (refine Ends.mk (Or.inl rfl) (ac (congrArg AV.bool ?_))
           exact bad (by rw [hpm] at *; clear hG; grind [slL]))
        | skip
      all_goals (refine Exists.intro (i + 1, x.b) (And.intro ?_ (And.intro (by show o.sl.length - (i + 1) < o.sl.length - i; omega) (ah ?_ ?_))))
      all_goals first
        | (refine And.intro (congrArg some (ax (by omega))) ?_
           repeat' (first | exact trivial | refine And.intro rfl ?_))
        | ((repeat' (first | exact trivial | refine And.intro rfl ?_)); done)
        | (exact ⟨hlt_i, by rw [← hf, show slL ps e x = true by (rw [hpm] at *; clear hG; grind [slL]), Bool.true_and]⟩)
    · have bbk : decide ((i : Int) < ((o.sl.map aG).length : Int)) = true → False := fun h => by have := of_decide_eq_true h; simp at this; omega
      rw [List.drop_of_length_le (by omega)] at hf
      repeat' first|exact (bbk (by assumption)).elim|refine Q1 ?_|refine Q2 ?_|refine Q3 hG aa ee (by kernel_rfl) ?_|refine Q4 hG aa ee (by kernel_rfl) ?_|refine Q5 hG aa ?_|refine Q6 hG aa ?_|refine Q7 hG aa ?_|refine Q8 hG aa ?_|refine Q9 rfl ?_|refine QF rfl ?_|refine QC rfl (And.intro (fun h => ?_) (fun h => ?_))|((conv => whnf); first|refine anF ?_|refine anT ?_|refine And.intro (by kernel_rfl) ?_|refine And.intro (fun h => ?_) (fun h => ?_)|refine Or.inl ?_|fail)
      exact Ends.mk (Or.inl rfl) (ac (congrArg AV.bool hf))
def iA (o : Opt) (lost : List Int) : Int := bM (fun x : a8 => !inP lost x.p) o.sl 0
def kd (o : Opt) (ps : List ak) (lost : List Int) : Bool := eU o ps && lr ps lost
def yp (o : Opt) (ps : List ak) (lost : List Int) : AV := .tup (if kd o ps lost then [.int .i64 (iA o lost), .int .i64 0] else [.int .i64 0, .int .i64 180])
theorem wz (x : a8) (lost : List Int) (hl : lost.length ≤ 1000000) : ae Tryz.prog 256 ((.agg (aG x)) :: [.ref [aq lost]]) (.bool (!inP lost x.p)) := by
  refine ag aa Tryz.func256 rfl (by kernel_rfl) af (Nat.le_of_ble_eq_true rfl) ?_
  intro F n' w0 m0 hG hro h1
  repeat' first|refine Q1 ?_|refine Q2 ?_|refine Q3 hG aa nM (by kernel_rfl) ?_|refine Q4 hG aa nM (by kernel_rfl) ?_|refine Q5 hG aa ?_|refine Q6 hG aa ?_|refine Q7 hG aa ?_|refine Q8 hG aa ?_|refine Q9 rfl ?_|refine QF rfl ?_|refine QC rfl (And.intro (fun h => ?_) (fun h => ?_))|((conv => whnf); first|refine anF ?_|refine anT ?_|refine And.intro (by kernel_rfl) ?_|refine Exists.intro _ (And.intro (kU lost _ hl) ?_)|refine And.intro (fun h => ?_) (fun h => ?_)|refine Or.inl ?_|fail)
  all_goals exact Ends.mk (Or.inl rfl) (ac rfl)
theorem sH (l : List a8) (p : a8 → Bool) (g : FuncId) (fv : AV) (cap : List AV) (hf : fv = .clo g cap ∨ (fv = .fn g ∧ cap = [])) (hl : l.length ≤ 1000000)
    (hp : ∀ x ∈ l, ae Tryz.prog g ((.agg (aG x)) :: cap) (.bool (p x))) : ae Tryz.prog 255 [.sl .no 3 (l.map aG), fv] (.int .i64 (bM p l 0)) := by
  rcases hf with rfl | ⟨rfl, rfl⟩
  · refine ag aa Tryz.func255 rfl (by kernel_rfl) af (Nat.le_of_ble_eq_true rfl) ?_
    intro F n' w0 m0 hG hro h1
    repeat' first|refine Q1 ?_|refine Q2 ?_|refine Q3 hG aa cG (by kernel_rfl) ?_|refine Q4 hG aa cG (by kernel_rfl) ?_|refine Q5 hG aa ?_|refine Q6 hG aa ?_|refine Q7 hG aa ?_|refine Q8 hG aa ?_|refine Q9 rfl ?_|refine QF rfl ?_|refine QC rfl (And.intro (fun h => ?_) (fun h => ?_))|((conv => whnf); first|refine anF ?_|refine anT ?_|refine And.intro (by kernel_rfl) ?_|refine And.intro (fun h => ?_) (fun h => ?_)|refine Or.inl ?_|fail)
    refine az (X := Nat) (fun j => ⟨[(8, .int .i64 j), (7, .int .i64 (l.map aG).length), (0, .sl .no 3 (l.map aG)), (1, .clo g cap)], []⟩) (fun j => j ≤ l.length ∧ bM p (l.drop j) j = bM p l 0) (fun j => l.length - j) 0
      ⟨Nat.zero_le _, by simp⟩ (ah ?_ trivial) (fun j hj => ?_)
    · repeat' (first | exact trivial | refine And.intro rfl ?_)
    · obtain ⟨hj, hi⟩ := hj
      have hj2 : decide ((j : Int) < ((l.map aG).length : Int)) = true → j < l.length := fun h => by have := of_decide_eq_true h; simp at this; omega
      have hx : decide ((j : Int) < ((l.map aG).length : Int)) = true → (l.map aG)[(j : Int).toNat]? = some (aG (l.getD j ⟨0, 0, 0⟩)) := fun h => by have := hj2 h; simp [List.getElem?_eq_getElem this]
      have hc : decide ((j : Int) < ((l.map aG).length : Int)) = true → ae Tryz.prog g ((.agg (aG (l.getD j ⟨0, 0, 0⟩))) :: cap) (.bool (p (l.getD j ⟨0, 0, 0⟩))) := fun h => hp _ (by have := hj2 h; rw [List.getD_eq_getElem?_getD, List.getElem?_eq_getElem this]; exact List.getElem_mem this)
      repeat' first|refine Q1 ?_|refine Q2 ?_|refine Q3 hG aa cG (by kernel_rfl) ?_|refine Q4 hG aa cG (by kernel_rfl) ?_|refine Q5 hG aa ?_|refine Q6 hG aa ?_|refine Q7 hG aa ?_|refine Q8 hG aa ?_|refine Q9 rfl ?_|refine QF rfl ?_|refine QC rfl (And.intro (fun h => ?_) (fun h => ?_))|((conv => whnf); first|refine anF ?_|refine anT ?_|refine And.intro (by kernel_rfl) ?_|refine And.intro (Int.natCast_nonneg j) (Exists.intro _ (And.intro (hx (by assumption)) ?_))|refine Exists.intro _ (And.intro (hc (by assumption)) ?_)|refine And.intro (fun h => ?_) (fun h => ?_)|refine Or.inl ?_|fail)
      · rw [aT (d := ⟨0, 0, 0⟩) (hj2 (by assumption)), if_pos (by assumption)] at hi
        exact Ends.mk (Or.inl rfl) (ac (congrArg (AV.int .i64) hi))
      · have hj2 := hj2 (by assumption)
        rw [aT (d := ⟨0, 0, 0⟩) hj2, if_neg (fun h => tf h (by assumption))] at hi
        refine Exists.intro (j + 1) (And.intro ⟨hj2, hi⟩ (And.intro (by omega) (ah ?_ trivial)))
        refine And.intro (congrArg (fun z => some (AV.int .i64 z)) ((ap (by omega) (by omega)).trans (by omega))) ?_
        repeat' (first | exact trivial | refine And.intro rfl ?_)
      · have hj2 : l.length ≤ j := by have := of_decide_eq_false (by assumption : decide ((j : Int) < ((l.map aG).length : Int)) = false); simp at this; omega
        rw [List.drop_of_length_le hj2] at hi
        exact Ends.mk (Or.inl rfl) (ac (congrArg (AV.int .i64) hi))
  · refine ag aa Tryz.func255 rfl (by kernel_rfl) af (Nat.le_of_ble_eq_true rfl) ?_
    intro F n' w0 m0 hG hro h1
    repeat' first|refine Q1 ?_|refine Q2 ?_|refine Q3 hG aa cG (by kernel_rfl) ?_|refine Q4 hG aa cG (by kernel_rfl) ?_|refine Q5 hG aa ?_|refine Q6 hG aa ?_|refine Q7 hG aa ?_|refine Q8 hG aa ?_|refine Q9 rfl ?_|refine QF rfl ?_|refine QC rfl (And.intro (fun h => ?_) (fun h => ?_))|((conv => whnf); first|refine anF ?_|refine anT ?_|refine And.intro (by kernel_rfl) ?_|refine And.intro (fun h => ?_) (fun h => ?_)|refine Or.inl ?_|fail)
    refine az (X := Nat) (fun j => ⟨[(8, .int .i64 j), (7, .int .i64 (l.map aG).length), (0, .sl .no 3 (l.map aG)), (1, .fn g)], []⟩) (fun j => j ≤ l.length ∧ bM p (l.drop j) j = bM p l 0) (fun j => l.length - j) 0
      ⟨Nat.zero_le _, by simp⟩ (ah ?_ trivial) (fun j hj => ?_)
    · repeat' (first | exact trivial | refine And.intro rfl ?_)
    · obtain ⟨hj, hi⟩ := hj
      have hj2 : decide ((j : Int) < ((l.map aG).length : Int)) = true → j < l.length := fun h => by have := of_decide_eq_true h; simp at this; omega
      have hx : decide ((j : Int) < ((l.map aG).length : Int)) = true → (l.map aG)[(j : Int).toNat]? = some (aG (l.getD j ⟨0, 0, 0⟩)) := fun h => by have := hj2 h; simp [List.getElem?_eq_getElem this]
      have hc : decide ((j : Int) < ((l.map aG).length : Int)) = true → ae Tryz.prog g ((.agg (aG (l.getD j ⟨0, 0, 0⟩))) :: []) (.bool (p (l.getD j ⟨0, 0, 0⟩))) := fun h => hp _ (by have := hj2 h; rw [List.getD_eq_getElem?_getD, List.getElem?_eq_getElem this]; exact List.getElem_mem this)
      repeat' first|refine Q1 ?_|refine Q2 ?_|refine Q3 hG aa cG (by kernel_rfl) ?_|refine Q4 hG aa cG (by kernel_rfl) ?_|refine Q5 hG aa ?_|refine Q6 hG aa ?_|refine Q7 hG aa ?_|refine Q8 hG aa ?_|refine Q9 rfl ?_|refine QF rfl ?_|refine QC rfl (And.intro (fun h => ?_) (fun h => ?_))|((conv => whnf); first|refine anF ?_|refine anT ?_|refine And.intro (by kernel_rfl) ?_|refine And.intro (Int.natCast_nonneg j) (Exists.intro _ (And.intro (hx (by assumption)) ?_))|refine Exists.intro _ (And.intro (hc (by assumption)) ?_)|refine And.intro (fun h => ?_) (fun h => ?_)|refine Or.inl ?_|fail)
      · rw [aT (d := ⟨0, 0, 0⟩) (hj2 (by assumption)), if_pos (by assumption)] at hi
        exact Ends.mk (Or.inl rfl) (ac (congrArg (AV.int .i64) hi))
      · have hj2 := hj2 (by assumption)
        rw [aT (d := ⟨0, 0, 0⟩) hj2, if_neg (fun h => tf h (by assumption))] at hi
        refine Exists.intro (j + 1) (And.intro ⟨hj2, hi⟩ (And.intro (by omega) (ah ?_ trivial)))
        refine And.intro (congrArg (fun z => some (AV.int .i64 z)) ((ap (by omega) (by omega)).trans (by omega))) ?_
        repeat' (first | exact trivial | refine And.intro rfl ?_)
      · have hj2 : l.length ≤ j := by have := of_decide_eq_false (by assumption : decide ((j : Int) < ((l.map aG).length : Int)) = false); simp at this; omega
        rw [List.drop_of_length_le hj2] at hi
        exact Ends.mk (Or.inl rfl) (ac (congrArg (AV.int .i64) hi))
theorem xX (o : Opt) (ps : List ak) (lost : List Int) (ho : o.sl.length ≤ 1000000) (hps : ps.length ≤ 1000000) (hl : lost.length ≤ 1000000) : ae Tryz.prog 198 [.agg (aK o), am ps, aq lost] (yp o ps lost) := by
  refine ag aa Tryz.func198 rfl (by kernel_rfl) af (Nat.le_of_ble_eq_true rfl) ?_
  intro F n' w0 m0 hG hro h1
  repeat' first|refine Q1 ?_|refine Q2 ?_|refine Q3 hG aa nZ (by kernel_rfl) ?_|refine Q4 hG aa nZ (by kernel_rfl) ?_|refine Q5 hG aa ?_|refine Q6 hG aa ?_|refine Q7 hG aa ?_|refine Q8 hG aa ?_|refine Q9 rfl ?_|refine QF rfl ?_|refine QC rfl (And.intro (fun h => ?_) (fun h => ?_))|((conv => whnf); first|refine anF ?_|refine anT ?_|refine And.intro (by kernel_rfl) ?_|refine Exists.intro _ (And.intro (qh o ps ho hps) ?_)|refine Exists.intro _ (And.intro (sG ps lost hl hps) ?_)|refine Exists.intro _ (And.intro (sH o.sl _ _ _ _ (Or.inl rfl) ho (fun x _ => wz x lost hl)) ?_)|refine And.intro (fun h => ?_) (fun h => ?_)|refine Or.inl ?_|fail)
  all_goals refine Ends.mk (Or.inl rfl) (ac ?_)
  all_goals (clear hG; first
    | (have h : kd o ps lost = true := by grind [kd]
       simp only [yp, h, if_true]; rfl)
    | (have h : kd o ps lost = false := by grind [kd]
       simp only [yp, h]; rfl))
end Go.Proofs
namespace Go.Proofs
open Go Go.AI
set_option maxRecDepth 10000
theorem vQ (l : List Int) : bu (fX l) = l.map fun h => [AV.int .i64 h] := by simp [bu, fX]
theorem A9 (l : List Int) : ∀ x ∈ fX l, x.length = 1 := fun x hx => by
  obtain ⟨y, _, rfl⟩ := List.mem_map.1 hx; rfl
theorem wx (l : List Int) (hl : l.length ≤ 1000000) : pF Tryz.prog 114 l (sortI l) := pF.sortI t6 (enters_of Tryz.func114 (by kernel_rfl) rfl) l (by omega)
theorem s9 (l : List Int) (hl : l.length ≤ 1000000) : dF Tryz.prog 115 1 (fX l) [] (fun r _ => r = .sl .no 1 (bu (fX (Lib.compact l)))) := dF.compactI t8 (enters_of Tryz.func115 (by kernel_rfl) rfl) l (by omega)
theorem sZ (sz : Nat) {o : Go.AI.Own} : ae Tryz.prog 114 [.sl o sz []] (.tup []) := ae.sortNilI t6 (enters_of Tryz.func114 (by kernel_rfl) rfl) sz
theorem pH (sz sz2 : Nat) {o : Go.AI.Own} : ae Tryz.prog 115 [.sl o sz []] (.sl .no sz2 []) := ae.compactNil t8 (enters_of Tryz.func115 (by kernel_rfl) rfl) sz sz2
def zf : List Int → List (Nat × AV)
  | [] => [(2, .sl .full 0 [])]
  | x :: r => [(2, .me .sl 33 (x :: r).length []), (xk 33, .me .arr 33 1 ((x :: r).map fun h => [AV.int .i64 h]))]
theorem dI (o : List Int) (z : Int) : zf (o ++ [z]) = [(2, .me .sl 33 (o.length + 1) []), (xk 33, .me .arr 33 1 ((o ++ [z]).map fun h => [AV.int .i64 h]))] := by
  cases o with
  | nil => rfl
  | cons x r => simp [zf]
theorem rn (o : List Int) (z x : Int) : zf (o ++ [z] ++ [x]) = [(2, .me .sl 33 (o.length + 1 + 1) []), (xk 33, .me .arr 33 1 ((o ++ [z]).map (fun h => [AV.int .i64 h]) ++ [[AV.int .i64 x]]))] := by
  rw [dI, List.map_append, List.length_append]; rfl
def fb (o : Opt) : List Int := (o.sl.take 6).map (·.p)
theorem tt (l : List Opt) : (l.flatMap fb).length ≤ 6 * l.length := by
  induction l with
  | nil => simp
  | cons o r ih =>
    rw [List.flatMap_cons, List.length_append, List.length_cons]
    have : (fb o).length ≤ 6 := by unfold fb; rw [List.length_map, List.length_take]; omega
    omega
theorem Eh {α : Type} (l : List α) (n : Nat) (m : Int) (hm : m = min (l.length : Int) n) : 0 ≤ m ∧ m.toNat ≤ l.length ∧ (l.take m.toNat).drop 0 = l.take n := by
  subst hm
  refine ⟨by omega, by omega, ?_⟩
  rw [List.drop_zero]
  rcases Nat.le_total l.length n with h | h
  · rw [List.take_of_length_le (by omega), List.take_of_length_le h]
  · rw [show (min (l.length : Int) n).toNat = n by omega]
set_option maxHeartbeats 16000000 in
theorem gN (l : List Opt) (hl : l.length ≤ 1000000) (hs : slens l) : ae Tryz.prog 47 [aM l] (aq (aw l)) := by
  obtain ⟨h8a, h8b, h8c⟩ := Eh (l.map aK) 8 _ rfl
  have h8c := h8c.trans List.map_take.symm
  refine ag aa Tryz.func47 rfl (by kernel_rfl) af (Nat.le_of_ble_eq_true rfl) ?_
  intro F n' w0 m0 hG hro h1
  refine Q1 ?_
  refine SPB.regN hG aa aC [2] (by kernel_rfl) ?_
  conv => whnf
  repeat' first|refine Q1 ?_|refine Q2 ?_|refine Q3 hG aa aC (by kernel_rfl) ?_|refine Q4 hG aa aC (by kernel_rfl) ?_|refine Q5 hG aa ?_|refine Q6 hG aa ?_|refine Q7 hG aa ?_|refine Q8 hG aa ?_|refine Q9 rfl ?_|refine QF rfl ?_|refine QC rfl (And.intro (fun h => ?_) (fun h => ?_))|((conv => whnf); first|refine anF ?_|refine anT ?_|refine And.intro (by kernel_rfl) ?_|refine And.intro h8a (And.intro (Nat.zero_le _) (And.intro h8b ?_))|refine And.intro (fun h => ?_) (fun h => ?_)|refine Or.inl ?_|fail)
  refine az (X := Nat) (fun i => ⟨(13, .int .i64 i) :: (12, .int .i64 ((l.take 8).map aK).length) :: (11, aM (l.take 8)) :: zf (((l.take 8).take i).flatMap fb), []⟩) (fun i => i ≤ (l.take 8).length) (fun i => (l.take 8).length - i) 0 (Nat.zero_le _) (ah ?_ ?_) (fun i hi => ?_)
  · refine And.intro rfl (And.intro (congrArg (fun z => some (AV.int .i64 (z : List (List AV)).length)) h8c) (And.intro (congrArg (fun z => some (AV.sl .no 9 z)) h8c) ?_))
    repeat' (first | exact trivial | refine And.intro rfl ?_)
  · repeat' (first | exact trivial | refine And.intro rfl ?_)
  · have h8 : i ≤ 8 := by rw [List.length_take] at hi; omega
    by_cases hlt_i : i < (l.take 8).length
    · have bbk : decide ((i : Int) < (((l.take 8).map aK).length : Int)) = false → False := fun h => by have := of_decide_eq_false h; rw [List.length_map] at this; omega
      have hx := pf hlt_i
      have hsn : ((l.take 8).take (i + 1)).flatMap fb = ((l.take 8).take i).flatMap fb ++ fb (aU (l.take 8) i) := by
        rw [List.take_add_one, List.getElem?_eq_getElem hlt_i, eS hlt_i]; simp
      have hlen := tt ((l.take 8).take i)
      have hpu : fb (aU (l.take 8) i) = ((aU (l.take 8) i).sl.take 6).map (·.p) := rfl
      rw [List.length_take] at hlen
      generalize aU (l.take 8) i = u at hx hsn hpu
      generalize hcc : ((l.take 8).take i).flatMap fb = c at hsn hlen
      obtain ⟨h6a, h6b, h6c⟩ := Eh (u.sl.map aG) 6 _ rfl
      have h6c := h6c.trans List.map_take.symm
      rcases bT c with hc | ⟨o, z, hc⟩
      · rw [hc]
        repeat' first|exact (bbk (by assumption)).elim|refine Q1 ?_|refine Q2 ?_|refine Q3 hG aa aC (by kernel_rfl) ?_|refine Q4 hG aa aC (by kernel_rfl) ?_|refine Q5 hG aa ?_|refine Q6 hG aa ?_|refine Q7 hG aa ?_|refine Q8 hG aa ?_|refine Q9 rfl ?_|refine QF rfl ?_|refine QC rfl (And.intro (fun h => ?_) (fun h => ?_))|((conv => whnf); first|refine anF ?_|refine anT ?_|refine And.intro (by kernel_rfl) ?_|refine And.intro (Int.natCast_nonneg i) (Exists.intro _ (And.intro hx ?_))|refine And.intro h6a (And.intro (Nat.zero_le _) (And.intro h6b ?_))|refine And.intro (fun h => ?_) (fun h => ?_)|refine Or.inl ?_|fail)
        refine az (X := Nat) (fun j => ⟨(25, .int .i64 j) :: (24, .int .i64 ((u.sl.take 6).map aG).length) :: (23, .sl .no 3 ((u.sl.take 6).map aG)) :: (13, .int .i64 i) :: (12, .int .i64 ((l.take 8).map aK).length) :: (11, aM (l.take 8)) :: zf (c ++ ((u.sl.take 6).take j).map (·.p)), []⟩) (fun j => j ≤ (u.sl.take 6).length) (fun j => (u.sl.take 6).length - j) 0 (Nat.zero_le _) (ah ?_ ?_) (fun j hj => ?_)
        · refine And.intro rfl (And.intro (congrArg (fun z => some (AV.int .i64 (z : List (List AV)).length)) h6c) (And.intro (congrArg (fun z => some (AV.sl .no 3 z)) h6c) ?_))
          simp only [List.take_zero, List.map_nil, List.append_nil]
          rw [hc]
          repeat' (first | exact trivial | refine And.intro rfl ?_)
        · repeat' (first | exact trivial | refine And.intro rfl ?_)
        · have hj6 : j ≤ 6 := by rw [List.length_take] at hj; omega
          by_cases hlt_j : j < (u.sl.take 6).length
          · have bbj : decide ((j : Int) < (((u.sl.take 6).map aG).length : Int)) = false → False := fun h => by have := of_decide_eq_false h; rw [List.length_map] at this; omega
            have hy := fT hlt_j
            have hsn2 : c ++ ((u.sl.take 6).take (j + 1)).map (·.p) = (c ++ ((u.sl.take 6).take j).map (·.p)) ++ [((u.sl.take 6).getD j ⟨0, 0, 0⟩).p] := by
              rw [List.take_add_one, List.getElem?_eq_getElem hlt_j, List.getD_eq_getElem?_getD, List.getElem?_eq_getElem hlt_j]; simp
            have hlen2 : (c ++ ((u.sl.take 6).take j).map (·.p)).length ≤ 100 := by rw [List.length_append, List.length_map, List.length_take]; omega
            generalize (u.sl.take 6).getD j ⟨0, 0, 0⟩ = y at hy hsn2
            generalize c ++ ((u.sl.take 6).take j).map (·.p) = d at hsn2 hlen2
            rcases bT d with hc | ⟨o, z, hc⟩
            · rw [hc]
              repeat' first|exact (bbj (by assumption)).elim|refine Q1 ?_|refine Q2 ?_|refine Q3 hG aa aC (by kernel_rfl) ?_|refine Q4 hG aa aC (by kernel_rfl) ?_|refine Q5 hG aa ?_|refine Q6 hG aa ?_|refine Q7 hG aa ?_|refine Q8 hG aa ?_|refine Q9 rfl ?_|refine QF rfl ?_|refine QC rfl (And.intro (fun h => ?_) (fun h => ?_))|((conv => whnf); first|refine anF ?_|refine anT ?_|refine And.intro (by kernel_rfl) ?_|refine And.intro (Int.natCast_nonneg j) (Exists.intro _ (And.intro hy ?_))|refine Or.inr (And.intro rfl (And.intro (Nat.le_of_ble_eq_true rfl) (And.intro (Nat.le_of_ble_eq_true rfl) (And.intro (Nat.le_of_ble_eq_true rfl) ?_))))|refine And.intro (fun h => ?_) (fun h => ?_)|refine Or.inl ?_|fail)
              refine Exists.intro (j + 1) (And.intro hlt_j (And.intro (by omega) ?_))
              (try dsimp only)
              rw [hsn2, hc]
              refine ah (And.intro (congrArg some (ax (by omega))) ?_) ?_
              · repeat' (first | exact trivial | refine And.intro rfl ?_)
              · repeat' (first | exact trivial | refine And.intro rfl ?_)
            · rw [hc, dI]
              have hln : ((o ++ [z]).map fun h => [AV.int .i64 h]).length = o.length + 1 := by simp
              have hlo : o.length ≤ 100 := by rw [hc] at hlen2; simp at hlen2; omega
              repeat' first|exact (bbj (by assumption)).elim|refine Q1 ?_|refine Q2 ?_|refine Q3 hG aa aC (by kernel_rfl) ?_|refine Q4 hG aa aC (by kernel_rfl) ?_|refine Q5 hG aa ?_|refine Q6 hG aa ?_|refine Q7 hG aa ?_|refine Q8 hG aa ?_|refine Q9 rfl ?_|refine QF rfl ?_|refine QC rfl (And.intro (fun h => ?_) (fun h => ?_))|((conv => whnf); first|refine anF ?_|refine anT ?_|refine And.intro (by kernel_rfl) ?_|refine And.intro (Int.natCast_nonneg j) (Exists.intro _ (And.intro hy ?_))|refine And.intro (Nat.le_of_ble_eq_true rfl) (And.intro (show ((((o ++ [z]).map fun h => [AV.int .i64 h])).length + 1) * 8 ≤ 70368744177664 by rw [hln]; omega) (And.intro (show (((o ++ [z]).map fun h => [AV.int .i64 h])).length + 1 ≤ 4611686018427387904 by rw [hln]; omega) ?_))|refine And.intro (fun h => ?_) (fun h => ?_)|refine Or.inl ?_|fail)
              refine Exists.intro (j + 1) (And.intro hlt_j (And.intro (by omega) ?_))
              (try dsimp only)
              rw [hsn2, hc, rn]
              refine ah (And.intro (congrArg some (ax (by omega))) ?_) ?_
              · repeat' (first | exact trivial | refine And.intro rfl ?_)
              · repeat' (first | exact trivial | refine And.intro rfl ?_)
          · have bbj : decide ((j : Int) < (((u.sl.take 6).map aG).length : Int)) = true → False := fun h => by have := of_decide_eq_true h; rw [List.length_map] at this; omega
            have he : (u.sl.take 6).take j = u.sl.take 6 := List.take_of_length_le (by omega)
            have hsn3 : c ++ ((u.sl.take 6).take j).map (·.p) = ((l.take 8).take (i + 1)).flatMap fb := by rw [hsn, hpu, he]
            rw [hsn3]
            have hnx : ∀ d, ((l.take 8).take (i + 1)).flatMap fb = d → ((l.take 8).take (i + 1)).flatMap fb = d := fun _ h => h
            generalize hdd : ((l.take 8).take (i + 1)).flatMap fb = d
            rcases bT d with hc | ⟨o, z, hc⟩
            · rw [hc]
              repeat' first|exact (bbj (by assumption)).elim|refine Q1 ?_|refine Q2 ?_|refine Q3 hG aa aC (by kernel_rfl) ?_|refine Q4 hG aa aC (by kernel_rfl) ?_|refine Q5 hG aa ?_|refine Q6 hG aa ?_|refine Q7 hG aa ?_|refine Q8 hG aa ?_|refine Q9 rfl ?_|refine QF rfl ?_|refine QC rfl (And.intro (fun h => ?_) (fun h => ?_))|((conv => whnf); first|refine anF ?_|refine anT ?_|refine And.intro (by kernel_rfl) ?_|refine And.intro (fun h => ?_) (fun h => ?_)|refine Or.inl ?_|fail)
              refine Exists.intro (i + 1) (And.intro hlt_i (And.intro (by omega) ?_))
              (try dsimp only)
              rw [hdd, hc]
              refine ah (And.intro (congrArg some (ax (by omega))) ?_) ?_
              · repeat' (first | exact trivial | refine And.intro rfl ?_)
              · repeat' (first | exact trivial | refine And.intro rfl ?_)
            · rw [hc, dI]
              repeat' first|exact (bbj (by assumption)).elim|refine Q1 ?_|refine Q2 ?_|refine Q3 hG aa aC (by kernel_rfl) ?_|refine Q4 hG aa aC (by kernel_rfl) ?_|refine Q5 hG aa ?_|refine Q6 hG aa ?_|refine Q7 hG aa ?_|refine Q8 hG aa ?_|refine Q9 rfl ?_|refine QF rfl ?_|refine QC rfl (And.intro (fun h => ?_) (fun h => ?_))|((conv => whnf); first|refine anF ?_|refine anT ?_|refine And.intro (by kernel_rfl) ?_|refine And.intro (fun h => ?_) (fun h => ?_)|refine Or.inl ?_|fail)
              refine Exists.intro (i + 1) (And.intro hlt_i (And.intro (by omega) ?_))
              (try dsimp only)
              rw [hdd, hc, dI]
              refine ah (And.intro (congrArg some (ax (by omega))) ?_) ?_
              · repeat' (first | exact trivial | refine And.intro rfl ?_)
              · repeat' (first | exact trivial | refine And.intro rfl ?_)
      · rw [hc, dI]
        repeat' first|exact (bbk (by assumption)).elim|refine Q1 ?_|refine Q2 ?_|refine Q3 hG aa aC (by kernel_rfl) ?_|refine Q4 hG aa aC (by kernel_rfl) ?_|refine Q5 hG aa ?_|refine Q6 hG aa ?_|refine Q7 hG aa ?_|refine Q8 hG aa ?_|refine Q9 rfl ?_|refine QF rfl ?_|refine QC rfl (And.intro (fun h => ?_) (fun h => ?_))|((conv => whnf); first|refine anF ?_|refine anT ?_|refine And.intro (by kernel_rfl) ?_|refine And.intro (Int.natCast_nonneg i) (Exists.intro _ (And.intro hx ?_))|refine And.intro h6a (And.intro (Nat.zero_le _) (And.intro h6b ?_))|refine And.intro (fun h => ?_) (fun h => ?_)|refine Or.inl ?_|fail)
        refine az (X := Nat) (fun j => ⟨(25, .int .i64 j) :: (24, .int .i64 ((u.sl.take 6).map aG).length) :: (23, .sl .no 3 ((u.sl.take 6).map aG)) :: (13, .int .i64 i) :: (12, .int .i64 ((l.take 8).map aK).length) :: (11, aM (l.take 8)) :: zf (c ++ ((u.sl.take 6).take j).map (·.p)), []⟩) (fun j => j ≤ (u.sl.take 6).length) (fun j => (u.sl.take 6).length - j) 0 (Nat.zero_le _) (ah ?_ ?_) (fun j hj => ?_)
        · refine And.intro rfl (And.intro (congrArg (fun z => some (AV.int .i64 (z : List (List AV)).length)) h6c) (And.intro (congrArg (fun z => some (AV.sl .no 3 z)) h6c) ?_))
          simp only [List.take_zero, List.map_nil, List.append_nil]
          rw [hc, dI]
          repeat' (first | exact trivial | refine And.intro rfl ?_)
        · repeat' (first | exact trivial | refine And.intro rfl ?_)
        · have hj6 : j ≤ 6 := by rw [List.length_take] at hj; omega
          by_cases hlt_j : j < (u.sl.take 6).length
          · have bbj : decide ((j : Int) < (((u.sl.take 6).map aG).length : Int)) = false → False := fun h => by have := of_decide_eq_false h; rw [List.length_map] at this; omega
            have hy := fT hlt_j
            have hsn2 : c ++ ((u.sl.take 6).take (j + 1)).map (·.p) = (c ++ ((u.sl.take 6).take j).map (·.p)) ++ [((u.sl.take 6).getD j ⟨0, 0, 0⟩).p] := by
              rw [List.take_add_one, List.getElem?_eq_getElem hlt_j, List.getD_eq_getElem?_getD, List.getElem?_eq_getElem hlt_j]; simp
            have hlen2 : (c ++ ((u.sl.take 6).take j).map (·.p)).length ≤ 100 := by rw [List.length_append, List.length_map, List.length_take]; omega
            generalize (u.sl.take 6).getD j ⟨0, 0, 0⟩ = y at hy hsn2
            generalize c ++ ((u.sl.take 6).take j).map (·.p) = d at hsn2 hlen2
            rcases bT d with hc | ⟨o, z, hc⟩
            · rw [hc]
              repeat' first|exact (bbj (by assumption)).elim|refine Q1 ?_|refine Q2 ?_|refine Q3 hG aa aC (by kernel_rfl) ?_|refine Q4 hG aa aC (by kernel_rfl) ?_|refine Q5 hG aa ?_|refine Q6 hG aa ?_|refine Q7 hG aa ?_|refine Q8 hG aa ?_|refine Q9 rfl ?_|refine QF rfl ?_|refine QC rfl (And.intro (fun h => ?_) (fun h => ?_))|((conv => whnf); first|refine anF ?_|refine anT ?_|refine And.intro (by kernel_rfl) ?_|refine And.intro (Int.natCast_nonneg j) (Exists.intro _ (And.intro hy ?_))|refine Or.inr (And.intro rfl (And.intro (Nat.le_of_ble_eq_true rfl) (And.intro (Nat.le_of_ble_eq_true rfl) (And.intro (Nat.le_of_ble_eq_true rfl) ?_))))|refine And.intro (fun h => ?_) (fun h => ?_)|refine Or.inl ?_|fail)
              refine Exists.intro (j + 1) (And.intro hlt_j (And.intro (by omega) ?_))
              (try dsimp only)
              rw [hsn2, hc]
              refine ah (And.intro (congrArg some (ax (by omega))) ?_) ?_
              · repeat' (first | exact trivial | refine And.intro rfl ?_)
              · repeat' (first | exact trivial | refine And.intro rfl ?_)
            · rw [hc, dI]
              have hln : ((o ++ [z]).map fun h => [AV.int .i64 h]).length = o.length + 1 := by simp
              have hlo : o.length ≤ 100 := by rw [hc] at hlen2; simp at hlen2; omega
              repeat' first|exact (bbj (by assumption)).elim|refine Q1 ?_|refine Q2 ?_|refine Q3 hG aa aC (by kernel_rfl) ?_|refine Q4 hG aa aC (by kernel_rfl) ?_|refine Q5 hG aa ?_|refine Q6 hG aa ?_|refine Q7 hG aa ?_|refine Q8 hG aa ?_|refine Q9 rfl ?_|refine QF rfl ?_|refine QC rfl (And.intro (fun h => ?_) (fun h => ?_))|((conv => whnf); first|refine anF ?_|refine anT ?_|refine And.intro (by kernel_rfl) ?_|refine And.intro (Int.natCast_nonneg j) (Exists.intro _ (And.intro hy ?_))|refine And.intro (Nat.le_of_ble_eq_true rfl) (And.intro (show ((((o ++ [z]).map fun h => [AV.int .i64 h])).length + 1) * 8 ≤ 70368744177664 by rw [hln]; omega) (And.intro (show (((o ++ [z]).map fun h => [AV.int .i64 h])).length + 1 ≤ 4611686018427387904 by rw [hln]; omega) ?_))|refine And.intro (fun h => ?_) (fun h => ?_)|refine Or.inl ?_|fail)
              refine Exists.intro (j + 1) (And.intro hlt_j (And.intro (by omega) ?_))
              (try dsimp only)
              rw [hsn2, hc, rn]
              refine ah (And.intro (congrArg some (ax (by omega))) ?_) ?_
              · repeat' (first | exact trivial | refine And.intro rfl ?_)
              · repeat' (first | exact trivial | refine And.intro rfl ?_)
          · have bbj : decide ((j : Int) < (((u.sl.take 6).map aG).length : Int)) = true → False := fun h => by have := of_decide_eq_true h; rw [List.length_map] at this; omega
            have he : (u.sl.take 6).take j = u.sl.take 6 := List.take_of_length_le (by omega)
            have hsn3 : c ++ ((u.sl.take 6).take j).map (·.p) = ((l.take 8).take (i + 1)).flatMap fb := by rw [hsn, hpu, he]
            rw [hsn3]
            have hnx : ∀ d, ((l.take 8).take (i + 1)).flatMap fb = d → ((l.take 8).take (i + 1)).flatMap fb = d := fun _ h => h
            generalize hdd : ((l.take 8).take (i + 1)).flatMap fb = d
            rcases bT d with hc | ⟨o, z, hc⟩
            · rw [hc]
              repeat' first|exact (bbj (by assumption)).elim|refine Q1 ?_|refine Q2 ?_|refine Q3 hG aa aC (by kernel_rfl) ?_|refine Q4 hG aa aC (by kernel_rfl) ?_|refine Q5 hG aa ?_|refine Q6 hG aa ?_|refine Q7 hG aa ?_|refine Q8 hG aa ?_|refine Q9 rfl ?_|refine QF rfl ?_|refine QC rfl (And.intro (fun h => ?_) (fun h => ?_))|((conv => whnf); first|refine anF ?_|refine anT ?_|refine And.intro (by kernel_rfl) ?_|refine And.intro (fun h => ?_) (fun h => ?_)|refine Or.inl ?_|fail)
              refine Exists.intro (i + 1) (And.intro hlt_i (And.intro (by omega) ?_))
              (try dsimp only)
              rw [hdd, hc]
              refine ah (And.intro (congrArg some (ax (by omega))) ?_) ?_
              · repeat' (first | exact trivial | refine And.intro rfl ?_)
              · repeat' (first | exact trivial | refine And.intro rfl ?_)
            · rw [hc, dI]
              repeat' first|exact (bbj (by assumption)).elim|refine Q1 ?_|refine Q2 ?_|refine Q3 hG aa aC (by kernel_rfl) ?_|refine Q4 hG aa aC (by kernel_rfl) ?_|refine Q5 hG aa ?_|refine Q6 hG aa ?_|refine Q7 hG aa ?_|refine Q8 hG aa ?_|refine Q9 rfl ?_|refine QF rfl ?_|refine QC rfl (And.intro (fun h => ?_) (fun h => ?_))|((conv => whnf); first|refine anF ?_|refine anT ?_|refine And.intro (by kernel_rfl) ?_|refine And.intro (fun h => ?_) (fun h => ?_)|refine Or.inl ?_|fail)
              refine Exists.intro (i + 1) (And.intro hlt_i (And.intro (by omega) ?_))
              (try dsimp only)
              rw [hdd, hc, dI]
              refine ah (And.intro (congrArg some (ax (by omega))) ?_) ?_
              · repeat' (first | exact trivial | refine And.intro rfl ?_)
              · repeat' (first | exact trivial | refine And.intro rfl ?_)
    · have bbk : decide ((i : Int) < (((l.take 8).map aK).length : Int)) = true → False := fun h => by have := of_decide_eq_true h; rw [List.length_map] at this; omega
      have he : (l.take 8).take i = l.take 8 := List.take_of_length_le (by omega)
      have hraw : ((l.take 8).take i).flatMap fb = sR l := by rw [he]; rfl
      have hlen := tt (l.take 8)
      have hl8 : (l.take 8).length ≤ 8 := by rw [List.length_take]; omega
      have hlen : (sR l).length ≤ 48 := Nat.le_trans hlen (by omega)
      have hfk : aw l = Lib.compact (sortI (sR l)) := rfl
      rw [hraw, hfk]
      generalize sR l = c at hlen
      rcases bT c with hc | ⟨o, z, hc⟩
      · rw [hc]
        repeat' first|exact (bbk (by assumption)).elim|refine Q1 ?_|refine Q2 ?_|refine Q3 hG aa aC (by kernel_rfl) ?_|refine Q4 hG aa aC (by kernel_rfl) ?_|refine Q5 hG aa ?_|refine Q6 hG aa ?_|refine Q7 hG aa ?_|refine Q8 hG aa ?_|refine Q9 rfl ?_|refine QF rfl ?_|refine QC rfl (And.intro (fun h => ?_) (fun h => ?_))|((conv => whnf); first|refine anF ?_|refine anT ?_|refine And.intro (by kernel_rfl) ?_|refine Exists.intro _ (And.intro (sZ _) ?_)|refine Exists.intro _ (And.intro (pH _ 1) ?_)|refine And.intro (fun h => ?_) (fun h => ?_)|refine Or.inl ?_|fail)
        have h0 : Lib.compact (sortI []) = [] := by simp [sortI, Lib.compact, Lib.compactUpTo]
        rw [h0]
        exact Ends.mk (Or.inl rfl) (ac rfl)
      · rw [hc, dI]
        have hsl : (sortI (o ++ [z])).length ≤ 1000000 := by unfold sortI; rw [List.length_mergeSort]; rw [hc] at hlen; omega
        have hso : (o ++ [z]).length ≤ 1000000 := by rw [hc] at hlen; omega
        refine Q1 ?_
        refine Q4 hG aa aC (by kernel_rfl) ?_
        conv => whnf
        refine Q1 ?_
        refine QC rfl (And.intro (fun h => (bbk h).elim) (fun _ => ?_))
        refine Q8 hG aa ?_
        conv => whnf
        refine Q1 ?_
        refine SPB.oregW hG aa aC 1 (by kernel_rfl) ?_
        conv => whnf
        refine And.intro rfl (Exists.intro _ (Exists.intro _ (And.intro (wx _ hso) (And.intro rfl (And.intro (vQ _).symm ?_)))))
        conv => whnf
        refine Q1 ?_
        refine SPB.oregX hG aa aC 1 (by kernel_rfl) ?_
        conv => whnf
        refine Exists.intro _ (Exists.intro _ (And.intro (s9 _ hsl) (And.intro rfl (And.intro (A9 _) ?_))))
        rintro r rows' rfl _ _
        conv => whnf
        repeat' first|refine Q1 ?_|refine Q2 ?_|refine Q3 hG aa aC (by kernel_rfl) ?_|refine Q4 hG aa aC (by kernel_rfl) ?_|refine Q5 hG aa ?_|refine Q6 hG aa ?_|refine Q7 hG aa ?_|refine Q8 hG aa ?_|refine Q9 rfl ?_|refine QF rfl ?_|refine QC rfl (And.intro (fun h => ?_) (fun h => ?_))|((conv => whnf); first|refine anF ?_|refine anT ?_|refine And.intro (by kernel_rfl) ?_|refine And.intro (fun h => ?_) (fun h => ?_)|refine Or.inl ?_|fail)
        exact Ends.mk (Or.inl rfl) (ac (congrArg (fun z => AV.sl .no 1 z) (vQ _)))
end Go.Proofs
namespace Go.Proofs
open Go Go.AI
set_option maxRecDepth 10000
theorem DI {n : Nat} (h : n ≤ 6) : IntKind.i64.wrap (1 * 2 ^ (min (n : Int).toNat IntKind.i64.bits)) = ((2 ^ n : Nat) : Int) := by
  match n, h with
  | 0, _ | 1, _ | 2, _ | 3, _ | 4, _ | 5, _ | 6, _ => decide
theorem Df : ((List.range 64).all fun b => (List.range 6).all fun i => (pD .and .i64 ((b : Int).fdiv (2 ^ (min (i : Int).toNat IntKind.i64.bits))) 1 == 1) == pE b i) = true := by kernel_rfl
theorem D6 {b i : Nat} (hb : b < 64) (hi : i < 6) : (pD .and .i64 ((b : Int).fdiv (2 ^ (min (i : Int).toNat IntKind.i64.bits))) 1 == 1) = pE b i := by
  have h := List.all_eq_true.1 (List.all_eq_true.1 Df b (List.mem_range.2 hb)) i (List.mem_range.2 hi)
  exact beq_iff_eq.1 h
theorem up {n : Nat} (h : n ≤ 6) : 2 ^ n ≤ 64 := by
  match n, h with
  | 0, _ | 1, _ | 2, _ | 3, _ | 4, _ | 5, _ | 6, _ => decide
theorem xi {f : List Int} {ps : List ak} {k : Int} {b n : Nat} (hb : b < n) (h : bN ps (dK f b) k = true) : (dy f ps k n)[(dy f ps k b).length]? = some (dK f b) := by
  have e : dy f ps k n = dy f ps k (b + 1) ++ ((((List.range n).map (dK f)).drop (b + 1)).filter fun l => bN ps l k) := by
    unfold dy
    rw [← List.filter_append]
    congr 1
    have h1 : (List.range (b + 1)).map (dK f) = ((List.range n).map (dK f)).take (b + 1) := by
      rw [← List.map_take, List.take_range, Nat.min_eq_left (by omega)]
    rw [h1, List.take_append_drop]
  rw [e, gV, if_pos h, List.append_assoc, List.getElem?_append_right (Nat.le_refl _), Nat.sub_self]
  rfl
theorem tZ (f : List Int) (ps : List ak) (k : Int) : ae Tryz.prog 118 [aq f, am ps, .int .i64 k] (.clo 191 [.ref [aq f], .ref [am ps], .ref [.int .i64 k]]) := by
  refine ag aa Tryz.func118 rfl (by kernel_rfl) af (Nat.le_of_ble_eq_true rfl) ?_
  intro F n' w0 m0 hG hro h1
  repeat' first|refine Q1 ?_|refine Q2 ?_|refine Q3 hG aa oL (by kernel_rfl) ?_|refine Q4 hG aa oL (by kernel_rfl) ?_|refine Q5 hG aa ?_|refine Q6 hG aa ?_|refine Q7 hG aa ?_|refine Q8 hG aa ?_|refine Q9 rfl ?_|refine QF rfl ?_|refine QC rfl (And.intro (fun h => ?_) (fun h => ?_))|((conv => whnf); first|refine anF ?_|refine anT ?_|refine And.intro (by kernel_rfl) ?_|refine And.intro (fun h => ?_) (fun h => ?_)|refine Or.inl ?_|fail)
  all_goals exact Ends.mk (Or.inl rfl) (ac rfl)
set_option maxHeartbeats 8000000 in
theorem nE (f : List Int) (ps : List ak) (k : Int) (hf : f.length ≤ 6) (hps : ps.length ≤ 1000000) : kY Tryz.prog (fun l => [aq l]) 191 [.ref [aq f], .ref [am ps], .ref [.int .i64 k]] (aY f ps k) := by
  have hfl : (f.map fun h => [AV.int .i64 h]).length = f.length := List.length_map _
  have h64 := up hf
  refine kY.of Tryz.func191 rfl (by kernel_rfl) af (Nat.le_of_ble_eq_true rfl) rfl ?_
  intro F n m y J Jx hY
  repeat' first|refine MPB.seq ?_|refine MPB.block ?_|refine MPB.reg hY aa dC (by kernel_rfl) ?_|refine MPB.skip ?_|refine MPB.label ?_|refine MPB.ret ?_|refine MPB.exit ?_|refine MPB.condT rfl ?_|refine MPB.condF rfl ?_|refine MPB.cond rfl (And.intro (fun h => ?_) (fun h => ?_))|((conv => whnf); first|refine anF ?_|refine anT ?_|refine And.intro (by kernel_rfl) ?_|refine And.intro (Int.natCast_nonneg _) ?_|refine And.intro (fun h => ?_) (fun h => ?_)|refine Or.inl ?_|fail)
  refine MPB.loop (X := Nat) (fun b => ((false, (dy f ps k b).length), ⟨[(12, .int .i64 b), (11, .int .i64 ((2 ^ f.length : Nat) : Int)), (3, .ref [.int .i64 k]), (2, .ref [am ps]), (1, .ref [aq f]), (0, .lit (.func (.yield y) #[] #[]))], []⟩)) (fun b => b ≤ 2 ^ f.length) (fun b => 2 ^ f.length - b) 0 (Nat.zero_le _) rfl (ah ?_ ?_) (fun b hb => ?_)
  · refine And.intro rfl (And.intro (congrArg (fun z => some (AV.int .i64 z)) ?_) ?_)
    · rw [hfl]; exact DI hf
    · repeat' (first | exact trivial | refine And.intro rfl ?_)
  · repeat' (first | exact trivial | refine And.intro rfl ?_)
  · by_cases hlt : b < 2 ^ f.length
    · have bbk : decide ((b : Int) < ((2 ^ f.length : Nat) : Int)) = false → False := fun h => by have := of_decide_eq_false h; omega
      repeat' first|exact (bbk (by assumption)).elim|refine MPB.seq ?_|refine MPB.block ?_|refine MPB.reg hY aa dC (by kernel_rfl) ?_|refine MPB.skip ?_|refine MPB.label ?_|refine MPB.ret ?_|refine MPB.exit ?_|refine MPB.condT rfl ?_|refine MPB.condF rfl ?_|refine MPB.cond rfl (And.intro (fun h => ?_) (fun h => ?_))|((conv => whnf); first|refine anF ?_|refine anT ?_|refine And.intro (by kernel_rfl) ?_|refine And.intro (fun h => ?_) (fun h => ?_)|refine Or.inl ?_|fail)
      refine MPB.loop (X := Nat) (fun i => ((false, (dy f ps k b).length), ⟨[(17, .int .i64 i), (6, .sl (.id 6) 1 ((ck f b i).map fun h => [AV.int .i64 h])), (16, .int .i64 (f.map fun h => [AV.int .i64 h]).length), (15, aq f), (5, .int .i64 b), (12, .int .i64 b), (11, .int .i64 ((2 ^ f.length : Nat) : Int)), (3, .ref [.int .i64 k]), (2, .ref [am ps]), (1, .ref [aq f]), (0, .lit (.func (.yield y) #[] #[]))], []⟩)) (fun i => i ≤ f.length) (fun i => f.length - i) 0 (Nat.zero_le _) rfl (ah ?_ ?_) (fun i hi => ?_)
      · repeat' (first | exact trivial | refine And.intro rfl ?_)
      · repeat' (first | exact trivial | refine And.intro rfl ?_)
      · by_cases hli : i < f.length
        · have bbi : decide ((i : Int) < ((f.map fun h => [AV.int .i64 h]).length : Int)) = false → False := fun h => by have := of_decide_eq_false h; rw [hfl] at this; omega
          have hx : (f.map fun h => [AV.int .i64 h])[(i : Int).toNat]? = some [.int .i64 (f.getD i 0)] := by simp [List.getElem?_eq_getElem hli]
          have hbit := D6 (b := b) (i := i) (by omega) (by omega)
          have hst := jw (b := b) hli
          have hln : ((ck f b i).map fun h => [AV.int .i64 h]).length ≤ 6 := by rw [List.length_map]; have := o5 f b i; omega
          generalize f.getD i 0 = v at hx hst
          repeat' first|exact (bbi (by assumption)).elim|refine MPB.seq ?_|refine MPB.block ?_|refine MPB.reg hY aa dC (by kernel_rfl) ?_|refine MPB.skip ?_|refine MPB.label ?_|refine MPB.ret ?_|refine MPB.exit ?_|refine MPB.condT rfl ?_|refine MPB.condF rfl ?_|refine MPB.cond rfl (And.intro (fun h => ?_) (fun h => ?_))|((conv => whnf); first|refine anF ?_|refine anT ?_|refine And.intro (by kernel_rfl) ?_|refine And.intro (Int.natCast_nonneg i) (Exists.intro _ (And.intro hx ?_))|refine And.intro (Int.natCast_nonneg i) ?_|refine And.intro (show (((ck f b i).map fun h => [AV.int .i64 h]).length + 1) * 8 ≤ 70368744177664 by omega) (And.intro (show ((ck f b i).map fun h => [AV.int .i64 h]).length + 1 ≤ 4611686018427387904 by omega) ?_)|refine And.intro (fun h => ?_) (fun h => ?_)|refine Or.inl ?_|fail)
          · have ht : pE b i = true := by rw [← hbit]; assumption
            rw [if_pos ht] at hst
            refine Exists.intro (i + 1) (And.intro hli (And.intro (by omega) (And.intro rfl (ah ?_ ?_))))
            · refine And.intro (congrArg some (ax (by omega))) (And.intro (congrArg (fun z => some (AV.sl (.id 6) 1 z)) ?_) ?_)
              · rw [hst, List.map_append]; rfl
              · repeat' (first | exact trivial | refine And.intro rfl ?_)
            · repeat' (first | exact trivial | refine And.intro rfl ?_)
          · have ht : pE b i = false := by rw [← hbit]; assumption
            rw [if_neg (by rw [ht]; decide), List.append_nil] at hst
            refine Exists.intro (i + 1) (And.intro hli (And.intro (by omega) (And.intro rfl (ah ?_ ?_))))
            · refine And.intro (congrArg some (ax (by omega))) (And.intro (congrArg (fun z => some (AV.sl (.id 6) 1 z)) ?_) ?_)
              · rw [hst]
              · repeat' (first | exact trivial | refine And.intro rfl ?_)
            · repeat' (first | exact trivial | refine And.intro rfl ?_)
        · have bbi : decide ((i : Int) < ((f.map fun h => [AV.int .i64 h]).length : Int)) = true → False := fun h => by have := of_decide_eq_true h; rw [hfl] at this; omega
          have he : i = f.length := by omega
          have hsub : ck f b i = dK f b := by rw [he]; rfl
          rw [hsub]
          have hsl : (dK f b).length ≤ 1000000 := Nat.le_trans (o5 f b f.length) (by omega)
          have hsucc := gV f ps k b
          have hitem : bN ps (dK f b) k = true → (aY f ps k)[(dy f ps k b).length]? = some (dK f b) := xi hlt
          have cA := u4 ps (dK f b) k hsl hps
          generalize dK f b = u at *
          repeat' first|exact (bbi (by assumption)).elim|refine MPB.seq ?_|refine MPB.block ?_|refine MPB.reg hY aa dC (by kernel_rfl) ?_|refine MPB.skip ?_|refine MPB.label ?_|refine MPB.ret ?_|refine MPB.exit ?_|refine MPB.condT rfl ?_|refine MPB.condF rfl ?_|refine MPB.cond rfl (And.intro (fun h => ?_) (fun h => ?_))|((conv => whnf); first|refine anF ?_|refine anT ?_|refine And.intro (by kernel_rfl) ?_|refine Exists.intro _ (And.intro (cA) ?_)|refine And.intro (fun h => ?_) (fun h => ?_)|refine Or.inl ?_|fail)
          · have ha : bN ps u k = true := by assumption
            rw [if_pos ha] at hsucc
            refine Exists.intro u (And.intro (hitem ha) (And.intro rfl (fun t ht => ?_)))
            subst ht
            refine And.intro ?_ ?_
            · repeat' first|refine MPB.seq ?_|refine MPB.block ?_|refine MPB.reg hY aa dC (by kernel_rfl) ?_|refine MPB.skip ?_|refine MPB.label ?_|refine MPB.ret ?_|refine MPB.exit ?_|refine MPB.condT rfl ?_|refine MPB.condF rfl ?_|refine MPB.cond rfl (And.intro (fun h => ?_) (fun h => ?_))|((conv => whnf); first|refine anF ?_|refine anT ?_|refine And.intro (by kernel_rfl) ?_|refine And.intro (fun h => ?_) (fun h => ?_)|refine Or.inl ?_|fail)
              refine Exists.intro (b + 1) (And.intro hlt (And.intro (by omega) (And.intro (congrArg (Prod.mk false) (by rw [hsucc]; simp)) (ah ?_ ?_))))
              · refine And.intro (congrArg some (ax (by omega))) ?_
                repeat' (first | exact trivial | refine And.intro rfl ?_)
              · repeat' (first | exact trivial | refine And.intro rfl ?_)
            · repeat' first|refine MPB.seq ?_|refine MPB.block ?_|refine MPB.reg hY aa dC (by kernel_rfl) ?_|refine MPB.skip ?_|refine MPB.label ?_|refine MPB.ret ?_|refine MPB.exit ?_|refine MPB.condT rfl ?_|refine MPB.condF rfl ?_|refine MPB.cond rfl (And.intro (fun h => ?_) (fun h => ?_))|((conv => whnf); first|refine anF ?_|refine anT ?_|refine And.intro (by kernel_rfl) ?_|refine And.intro (fun h => ?_) (fun h => ?_)|refine Or.inl ?_|fail)
              exact gO.mk (Or.inl rfl) (Or.inr rfl)
          · have ha : bN ps u k = false := by assumption
            rw [if_neg (by rw [ha]; decide), List.append_nil] at hsucc
            refine Exists.intro (b + 1) (And.intro hlt (And.intro (by omega) (And.intro (congrArg (Prod.mk false) (by rw [hsucc])) (ah ?_ ?_))))
            · refine And.intro (congrArg some (ax (by omega))) ?_
              repeat' (first | exact trivial | refine And.intro rfl ?_)
            · repeat' (first | exact trivial | refine And.intro rfl ?_)
    · have bbk : decide ((b : Int) < ((2 ^ f.length : Nat) : Int)) = true → False := fun h => by have := of_decide_eq_true h; omega
      have he : b = 2 ^ f.length := by omega
      repeat' first|exact (bbk (by assumption)).elim|refine MPB.seq ?_|refine MPB.block ?_|refine MPB.reg hY aa dC (by kernel_rfl) ?_|refine MPB.skip ?_|refine MPB.label ?_|refine MPB.ret ?_|refine MPB.exit ?_|refine MPB.condT rfl ?_|refine MPB.condF rfl ?_|refine MPB.cond rfl (And.intro (fun h => ?_) (fun h => ?_))|((conv => whnf); first|refine anF ?_|refine anT ?_|refine And.intro (by kernel_rfl) ?_|refine And.intro (fun h => ?_) (fun h => ?_)|refine Or.inl ?_|fail)
      exact gO.mk (Or.inr rfl) (Or.inl (congrArg (Prod.mk false) (by rw [he]; rfl)))
def nA (l : List Opt) (ps : List ak) (k : Int) : Bool := decide ((l.length : Int) > 8) || (decide (k < 0) || (decide (k > 3) || (!bP ps || l.any fun o => !eU o ps)))
def fq (l : List Opt) (ps : List ak) (k : Int) : Bool := nA l ps k || decide (((aw l).length : Int) > 6)
def eh (l : List (List Int)) : AV := .sl .no 1 (l.map fun x => [aq x])
def pP (l : List Opt) (ps : List ak) (k : Int) : AV := .tup (if fq l ps k then [.sl .full 0 [], .int .i64 210] else [eh (aY (aw l) ps k), .int .i64 0])
theorem sD (o : Opt) (ps : List ak) (hl : o.sl.length ≤ 1000000) (hps : ps.length ≤ 1000000) : ae Tryz.prog 116 ((.agg (aK o)) :: [.ref [am ps]]) (.bool (!eU o ps)) := by
  refine ag aa Tryz.func116 rfl (by kernel_rfl) af (Nat.le_of_ble_eq_true rfl) ?_
  intro F n' w0 m0 hG hro h1
  repeat' first|refine Q1 ?_|refine Q2 ?_|refine Q3 hG aa oM (by kernel_rfl) ?_|refine Q4 hG aa oM (by kernel_rfl) ?_|refine Q5 hG aa ?_|refine Q6 hG aa ?_|refine Q7 hG aa ?_|refine Q8 hG aa ?_|refine Q9 rfl ?_|refine QF rfl ?_|refine QC rfl (And.intro (fun h => ?_) (fun h => ?_))|((conv => whnf); first|refine anF ?_|refine anT ?_|refine And.intro (by kernel_rfl) ?_|refine Exists.intro _ (And.intro (qh o ps hl hps) ?_)|refine And.intro (fun h => ?_) (fun h => ?_)|refine Or.inl ?_|fail)
  all_goals exact Ends.mk (Or.inl rfl) (ac rfl)
theorem gM (l : List Opt) (ps : List ak) (k : Int) (hl : l.length ≤ 1000000) (hs : slens l) (hps : ps.length ≤ 1000000) : ae Tryz.prog 48 [aM l, am ps, .int .i64 k] (pP l ps k) := by
  have cB := jo l (fun o => !eU o ps) 116 _ [.ref [am ps]] (Or.inl rfl) hl (fun o ho => sD o ps (hs o ho) hps)
  have hlm : ((l.map aK).length : Int) = (l.length : Int) := by rw [List.length_map]
  have hfm : (((aw l).map fun h => [AV.int .i64 h]).length : Int) = ((aw l).length : Int) := by rw [List.length_map]
  refine ag aa Tryz.func48 rfl (by kernel_rfl) af (Nat.le_of_ble_eq_true rfl) ?_
  intro F n' w0 m0 hG hro h1
  repeat' first|refine Q1 ?_|refine Q2 ?_|refine Q3 hG aa d4 (by kernel_rfl) ?_|refine Q4 hG aa d4 (by kernel_rfl) ?_|refine Q5 hG aa ?_|refine Q6 hG aa ?_|refine Q7 hG aa ?_|refine Q8 hG aa ?_|refine Q9 rfl ?_|refine QF rfl ?_|refine QC rfl (And.intro (fun h => ?_) (fun h => ?_))|((conv => whnf); first|refine anF ?_|refine anT ?_|refine And.intro (by kernel_rfl) ?_|refine Exists.intro _ (And.intro (eu ps hps) ?_)|refine Exists.intro _ (And.intro (cB) ?_)|refine Exists.intro _ (And.intro (gN l hl hs) ?_)|refine Exists.intro _ (And.intro (tZ _ _ _) ?_)|refine And.intro (fun h => ?_) (fun h => ?_)|refine Or.inl ?_|fail)
  all_goals first
    | (refine Ends.mk (Or.inl rfl) (ac ?_)
       have h : fq l ps k = true := by clear hG; grind [fq, nA]
       simp only [pP, h, if_true]; rfl)
    | skip
  have hnb : fq l ps k = false := by clear hG; grind [fq, nA]
  have hf6 : (aw l).length ≤ 6 := by
    simp only [fq, Bool.or_eq_false_iff, decide_eq_false_iff_not] at hnb; omega
  have hseq := nE (aw l) ps k hf6 hps
  have hlen : (aY (aw l) ps k).length ≤ 64 := by
    unfold aY dy
    refine Nat.le_trans (List.length_filter_le _ _) ?_
    rw [List.length_map, List.length_range]; exact up hf6
  rw [pP, hnb, if_neg (by decide)]
  generalize aY (aw l) ps k = items at hseq hlen
  refine SPB.resize 6 0 1006000 1 rfl rfl ?_
  conv => whnf
  refine ⟨SP.rangeM hG hro (Nat.le_trans (by decide) h1) (α := List Int) (fun l => [aq l]) (f := 191) (cap := [.ref [aq (aw l)], .ref [am ps], .ref [.int .i64 k]]) (items := items) rfl hseq (fun _ => rfl) (fun _ => [(6, .loc 6 0)]) [6] (fun _ => rfl)
    (fun p => [(6, [.sl (.id 1006000) 1 (p.map fun x => [aq x])])]) (ah ?_ ?_) (by kernel_rfl) (by decide) ?_ ?_⟩
  · repeat' (first | exact trivial | refine And.intro rfl ?_)
  · repeat' (first | exact trivial | refine And.intro rfl ?_)
  · intro F' n'' m' hG' pre x rest hx
    clear hG
    have hG := hG'
    have hpl : pre.length < 64 := by
      have := congrArg List.length hx
      simp at this; omega
    have hrow : (pre ++ [x]).map (fun x => [aq x]) = pre.map (fun x => [aq x]) ++ [[aq x]] := by simp
    have hln : (pre.map fun x => [aq x]).length < 64 := by simpa using hpl
    generalize (pre.map fun x => [aq x]) = row at hrow hln
    refine SPB.out (Q4 hG aa d4 (by kernel_rfl) ?_)
    conv => whnf
    refine And.intro rfl (And.intro (ah ?_ ?_) ?_)
    · repeat' (first | exact trivial | refine And.intro rfl ?_)
    · repeat' (first | exact trivial | refine And.intro rfl ?_)
    refine SPB.out ?_
    repeat' first|refine Q1 ?_|refine Q2 ?_|refine Q3 hG aa d4 (by kernel_rfl) ?_|refine Q4 hG aa d4 (by kernel_rfl) ?_|refine Q5 hG aa ?_|refine Q6 hG aa ?_|refine Q7 hG aa ?_|refine Q8 hG aa ?_|refine Q9 rfl ?_|refine QF rfl ?_|refine QC rfl (And.intro (fun h => ?_) (fun h => ?_))|((conv => whnf); first|refine anF ?_|refine anT ?_|refine And.intro (by kernel_rfl) ?_|refine And.intro (show (row.length + 1) * 24 ≤ 70368744177664 by omega) (And.intro (show row.length + 1 ≤ 4611686018427387904 by omega) ?_)|refine And.intro (fun h => ?_) (fun h => ?_)|refine Or.inl ?_|fail)
    refine ah ?_ ?_
    · repeat' (first | exact trivial | refine And.intro rfl ?_)
    · dsimp only; rw [hrow]; repeat' (first | exact trivial | refine And.intro rfl ?_)
  · conv => whnf
    repeat' first|refine Q1 ?_|refine Q2 ?_|refine Q3 hG aa d4 (by kernel_rfl) ?_|refine Q4 hG aa d4 (by kernel_rfl) ?_|refine Q5 hG aa ?_|refine Q6 hG aa ?_|refine Q7 hG aa ?_|refine Q8 hG aa ?_|refine Q9 rfl ?_|refine QF rfl ?_|refine QC rfl (And.intro (fun h => ?_) (fun h => ?_))|((conv => whnf); first|refine anF ?_|refine anT ?_|refine And.intro (by kernel_rfl) ?_|refine And.intro (fun h => ?_) (fun h => ?_)|refine Or.inl ?_|fail)
    all_goals exact Ends.mk (Or.inl rfl) (ac rfl)
end Go.Proofs
namespace Go.Proofs
open Go Go.AI
set_option maxRecDepth 10000
def pq (o : Opt) (k : Nat) : Img := if k < o.sl.length then ⟨o.id, o.size, o.a, (dx o k).b⟩ else ⟨o.id, o.size, o.a, fc o⟩
def sT (o : Opt) (k : Nat) : Opt := if k < o.sl.length then { o with sl := o.sl.take (k + 1) } else o
theorem tK : ∀ (l : List a8) (t : Int), fj t l = true → ∀ x ∈ l, t ≤ x.a ∧ x.a < x.b
  | [], _, _, x, hx => nomatch hx
  | y :: r, t, h, x, hx => by
    simp only [fj, mg, Bool.and_eq_true, decide_eq_true_eq] at h
    rcases List.mem_cons.1 hx with rfl | hx
    · omega
    · have := tK r y.b h.2 x hx
      omega
theorem rv : ∀ (l pre : List Img), eT pre l = true ↔ (∀ x ∈ l, (0 ≤ x.i ∧ x.i ≤ 63) ∧ (1 ≤ x.u ∧ x.u ≤ 1000000) ∧ 0 ≤ x.a ∧ x.a < x.b ∧ x.b ≤ 1000001) ∧ l.Pairwise (fun x y => x.i ≠ y.i) ∧ ∀ p ∈ pre, ∀ x ∈ l, p.i ≠ x.i
  | [], pre => by simp [eT]
  | x :: r, pre => by
    rw [eT, Bool.and_eq_true, rv r (pre ++ [x]), m8, lS]
    simp only [inM, spM, Bool.and_eq_true, Bool.not_eq_true', decide_eq_true_eq, List.any_eq_false, beq_iff_eq, List.mem_cons, List.pairwise_cons, forall_eq_or_imp, List.mem_append, List.not_mem_nil, or_false]
    constructor
    · rintro ⟨⟨g1, g2, g3, g4⟩, g5, g6, g7⟩
      exact ⟨⟨⟨g1, g3, g4.1, g4.2.1, g4.2.2⟩, g5⟩, ⟨fun y hy => g7 x (.inr rfl) y hy, g6⟩, fun p hp => ⟨fun e => g2 p hp e, fun y hy => g7 p (.inl hp) y hy⟩⟩
    · rintro ⟨⟨⟨g1, g3, g4, g4', g4''⟩, g5⟩, ⟨g6, g7⟩, g8⟩
      refine ⟨⟨g1, fun p hp e => (g8 p hp).1 e, g3, g4, g4', g4''⟩, g5, g7, fun p hp y hy => ?_⟩
      rcases hp with hp | rfl
      · exact (g8 p hp).2 y hy
      · exact g6 y hy
theorem ym {o : Opt} {k : Nat} (h : k < o.sl.length) : dx o k ∈ o.sl := by
  unfold dx
  rw [List.getD_eq_getElem?_getD, List.getElem?_eq_getElem h]
  exact List.getElem_mem h
end Go.Proofs
