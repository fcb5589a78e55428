/- The abstract interpreter for the code, part 4: what it reckons of a piece of code holds of every run. No condition but those typed. -/
import Derived.Test.YtoccmkmnkoldmaaGreatAiC
import Derived.ProofKit
import Derived.OpenShut
import Derived.Below
import Derived.Carry
import Derived.ChangeCalls
import Derived.MapKept
import Derived.Shelf.SlSortCmp.WholeK
set_option linter.unusedSectionVars false
set_option linter.unusedVariables false
set_option linter.unusedSimpArgs false
namespace Go.AI
open Go
open Go.RowKit (Below)

/-- The one value that reads so. -/
def closedI : List AV → Option (List Value)
  | [] => some []
  | .int k n :: r => match closedI r with
    | some l => some (.int k n :: l)
    | none => none
  | _ => none
def closedV : AV → Option Value
  | .int k n => some (.int k n)
  | .bool b => some (.bool b)
  | .agg cs => match closedI cs with
    | some l => some (.agg l.toArray)
    | none => none
  | _ => none
theorem closedI_spec {c : Ctx} : ∀ {cs : List AV} {l vs : List Value}, closedI cs = some l → cs.length = vs.length → (∀ (i : Nat) (x : AV) (u : Value), cs[i]? = some x → vs[i]? = some u → RC1 c x u) → vs = l
  | [], l, vs, h, hl, _ => by
    simp only [closedI, Option.some.injEq] at h
    subst h
    exact List.eq_nil_of_length_eq_zero (by simpa using hl.symm)
  | x :: r, l, [], h, hl, _ => by simp at hl
  | x :: r, l, v :: vs, h, hl, hr => by
    unfold closedI at h
    split at h
    · rename_i heq; cases heq
    · rename_i k n r' heq
      cases heq
      split at h
      · rename_i l' hl'
        cases h
        have h0 := hr 0 (.int k n) v rfl rfl
        rw [RC.int (c := c) h0, closedI_spec (c := c) (vs := vs) hl' (by simpa using hl) fun i x u h1 h2 => hr (i + 1) x u (by simpa using h1) (by simpa using h2)]
      · cases h
    · cases h
theorem closedV_spec {c : Ctx} {x : AV} {v u : Value} (h : closedV x = some v) (hr : RC c x u) : u = v := by
  cases x <;> simp only [closedV] at h <;> first | cases h | skip
  · exact RC.int hr
  · exact RC.bool hr
  · split at h
    · rename_i l hl
      cases h
      obtain ⟨vs, rfl, h1, _, h2⟩ := hr
      congr 1
      apply Array.ext'
      simpa using closedI_spec (c := c) (vs := vs.toList) hl (by simpa using h1) fun i x u g1 g2 => h2 i x u g1 (by simpa using g2)
    · cases h
def closedT : List (Nat × AV) → List (Nat × AV)
  | [] => []
  | (d, .int k n) :: r => (d, .int k n) :: closedT r
  | (d, .bool b) :: r => (d, .bool b) :: closedT r
  | (d, _) :: r => (d, .junk) :: closedT r
theorem closedT_get {m : Mem} {c : Ctx} {t : List (Nat × AV)} {d : Nat} {x : AV} (h : get (closedT t) d = some x) {v : Value} (hr : ∀ y, get t d = some y → RC c y v) : RD m x v := by
  induction t with
  | nil => simp [closedT, get] at h
  | cons p r ih =>
    obtain ⟨k, y⟩ := p
    by_cases hk : d = k
    · subst hk
      have hy := hr y (by rw [get_cons, if_pos rfl])
      cases y <;> simp only [closedT, get_cons, if_true, Option.some.injEq] at h <;> subst h <;> first | exact RD.junk v | (rw [hy.int]; exact RD.int _ _) | (rw [hy.bool]; exact RD.bool _)
    · have hr' : ∀ y, get r d = some y → RC c y v := fun z hz => hr z (by rw [get_cons, if_neg hk]; exact hz)
      cases y <;> simp only [closedT, get_cons, if_neg hk] at h <;> exact ih h hr'
def closedL : List AV → Option (List Value)
  | [] => some []
  | x :: r => match closedV x, closedL r with
    | some v, some l => some (v :: l)
    | _, _ => none
theorem closedL_spec {c : Ctx} {e : Operand → AV} {ρ : Operand → Value} : ∀ {xs : List Operand} {vs : List Value}, (∀ x ∈ xs, RC c (e x) (ρ x)) → closedL (xs.map e) = some vs → xs.map ρ = vs
  | [], vs, _, h => by simp only [List.map_nil, closedL, Option.some.injEq] at h; exact h
  | x :: r, vs, hr, h => by
    simp only [List.map_cons, closedL] at h
    split at h
    · rename_i v l hv hl
      cases h
      rw [List.map_cons, closedL_spec (fun y hy => hr y (List.mem_cons_of_mem _ hy)) hl, closedV_spec hv (hr x List.mem_cons_self)]
    · cases h

/-- The ground on which an iterator is walked. -/
structure YB (ι α : Type) where
  P : Program
  F : Fence
  n : Nat
  nt : Nat
  m : Mem
  l : Nat
  J : ι → World → Prop
  Jx : ι → World → Prop
  ok : ι → α → Prop
  nxt : ι → α → ι
  vals : α → Array Value
  tm : List (Nat × AV)
def YB.base {ι α : Type} (Y : YB ι α) (W : World) : Base := ⟨Y.P, Y.F, Y.n, W, Y.m, Y.nt⟩
structure YB.OK {ι α : Type} (Y : YB ι α) : Prop where
  base : ∀ W, (Y.base W).OK
  round : Y.F.round = none
  ab : ∀ k W W', Y.J k W → Gr W W' → Y.J k W'
  abx : ∀ k W W', Y.Jx k W → Gr W W' → Y.Jx k W'
  yld : ∀ k x W1, Y.ok k x → Y.J k W1 → Y.m.sub W1 → YieldAt Y.F (Y.n - 1) Y.P Y.l (Y.vals x) W1 fun e W' =>
        (e = .returned (.bool true) ∧ Y.J (Y.nxt k x) W' ∧ Y.m.sub W') ∨ (e = .returned (.bool false) ∧ Y.Jx (Y.nxt k x) W' ∧ Y.m.sub W')
/-- How far the iterator is: whether it has been told to stop; how many it has yielded. -/
abbrev Far (ι : Type) := Bool × ι
structure YI {ι α : Type} (Y : YB ι α) (g : Far ι) (s : St) (a : Act) (w : World) : Prop where
  ex : ∃ W0, (bif g.1 then Y.Jx g.2 W0 else Y.J g.2 W0) ∧ InvT (Y.base W0) s a w ∧ More W0 w
  tm : ∀ d x, get Y.tm d = some x → RD Y.m x (a.tmps.getD d Go.undef)
  df : a.defers = []
def YP {ι α : Type} (Y : YB ι α) (g : Far ι) (s : St) (c : Code) (K : Exit → Far ι → St → Prop) : Prop :=
  ∀ a w, YI Y g s a w → c.wpIn Y.F Y.n Y.P (fun e a' w' => ∃ g' s', YI Y g' s' a' w' ∧ K e g' s') a w

section
variable {ι α : Type} {Y : YB ι α} (hY : Y.OK)
theorem YI.less {g : Far ι} {s s' : St} {a : Act} {w : World} (h : YI Y g s a w) (hle : s.le s') : YI Y g s' a w :=
  ⟨let ⟨W0, h1, h2, h3⟩ := h.ex; ⟨W0, h1, h2.less hle, h3⟩, h.tm, h.df⟩
theorem YP.less {g : Far ι} {s s' : St} {c : Code} {K : Exit → Far ι → St → Prop} (h : YP Y g s' c K) (hle : s.le s') : YP Y g s c K := fun a w hI => h a w (hI.less hle)
theorem YP.mono {g : Far ι} {s : St} {c : Code} {K K' : Exit → Far ι → St → Prop} (h : YP Y g s c K) (hk : ∀ e g s, K e g s → K' e g s) : YP Y g s c K' :=
  fun a w hI => wpIn_mono (h a w hI) fun e _ _ ⟨g', s', h1, h2⟩ => ⟨g', s', h1, hk e g' s' h2⟩
def tmOK (tm : List (Nat × AV)) (ds : List Nat) : Bool := disj (1000000000 :: keys tm) ds && disj [1000000000] (keys tm)
theorem YP.of_SP {g : Far ι} {s : St} {c : Code} {K : Exit → Far ι → St → Prop} (hd : tmOK Y.tm (wrs c) = true) (h : ∀ W0, SP (Y.base W0) s c fun e s' => K e g s') : YP Y g s c K := by
  intro a w hI
  obtain ⟨⟨W0, h1, h2, hdr⟩, h3, h4⟩ := hI
  simp only [tmOK, Bool.and_eq_true] at hd
  refine wpIn_mono (h W0 a w ⟨h2.ex, h2.size, ⟨[], by simpa [marks] using h4, List.nodup_nil, by simp⟩⟩) ?_
  rintro e a' w' ⟨hN, hF, s', hI', hK⟩
  refine ⟨g, s', ⟨⟨W0, h1, hI'.toT, hdr.trans hN.more⟩, fun d x hx => ?_, ?_⟩, hK⟩
  · have hk : d ∈ keys Y.tm := mem_keys.2 (by rw [hx]; simp)
    rw [hF.tmps (fun hc => disj_spec hd.1 (List.mem_cons_of_mem _ hk) hc) (fun hc => disj_spec hd.2 (by simp) (hc ▸ hk))]
    exact h3 d x hx
  · rw [hF.defers fun hc => disj_spec hd.1 List.mem_cons_self hc]; exact h4
theorem YP.seq {g : Far ι} {s : St} {x y : Code} {K K1 : Exit → Far ι → St → Prop} (h : YP Y g s x K1) (hn : ∀ g s, K1 .normal g s → YP Y g s y K) (he : ∀ e g s, e ≠ .normal → K1 e g s → K e g s) : YP Y g s (.seq x y) K := by
  intro a w hI
  refine wpIn_seq (wpIn_mono (h a w hI) fun e a' w' hq => ?_)
  obtain ⟨g', s', hI', hK⟩ := hq
  cases e with
  | normal => exact hn g' s' hK a' w' hI'
  | exit id => exact ⟨g', s', hI', he _ _ _ (by intro h; cases h) hK⟩
  | goto l => exact ⟨g', s', hI', he _ _ _ (by intro h; cases h) hK⟩
  | ret => exact ⟨g', s', hI', he _ _ _ (by intro h; cases h) hK⟩
  | panic c => exact ⟨g', s', hI', he _ _ _ (by intro h; cases h) hK⟩
  | outgrown => exact ⟨g', s', hI', he _ _ _ (by intro h; cases h) hK⟩
theorem YP.block {g : Far ι} {s : St} {id : Nat} {c : Code} {K : Exit → Far ι → St → Prop} (h : YP Y g s c fun e g s => match e with | .exit j => bif Nat.beq j id then K .normal g s else K (.exit j) g s | e => K e g s) : YP Y g s (.block id c) K := by
  intro a w hI
  refine wpIn_block (wpIn_mono (h a w hI) fun e a' w' hq => ?_)
  obtain ⟨g', s', hI', hK⟩ := hq
  cases e with
  | exit j =>
    simp only at hK
    unfold Exit.inBlock
    cases hb : Nat.beq j id with
    | true => rw [hb] at hK; simp only [Nat.eq_of_beq_eq_true hb, if_true]; exact ⟨g', s', hI', hK⟩
    | false => rw [hb] at hK; simp only [Nat.ne_of_beq_eq_false hb, if_false]; exact ⟨g', s', hI', hK⟩
  | normal => exact ⟨g', s', hI', hK⟩
  | goto l => exact ⟨g', s', hI', hK⟩
  | ret => exact ⟨g', s', hI', hK⟩
  | panic c => exact ⟨g', s', hI', hK⟩
  | outgrown => exact ⟨g', s', hI', hK⟩
theorem YP.loop {g : Far ι} {s : St} {c : Code} {K : Exit → Far ι → St → Prop} {X : Type} (sh : X → Far ι × St) (I : X → Prop) (μ : X → Nat) (x0 : X) (h0 : I x0) (hg : (sh x0).1 = g) (hle : s.le (sh x0).2)
    (body : ∀ x, I x → YP Y (sh x).1 (sh x).2 c fun e g' s' => match e with | .normal => ∃ x', I x' ∧ μ x' < μ x ∧ (sh x').1 = g' ∧ s'.le (sh x').2 | e => K e g' s') : YP Y g s (.loop c) K := by
  intro a0 w hI
  have key : ∀ (m : Nat) (x : X) (a : Act) (w1 : World), I x → μ x < m → YI Y (sh x).1 (sh x).2 a w1 →
      Code.roundsIn Y.F Y.n Y.P c (fun e a' w' => ∃ g' s', YI Y g' s' a' w' ∧ K e g' s') m a w1 := by
    intro m
    induction m with
    | zero => intro x a w1 _ hm; omega
    | succ m ih =>
      intro x a w1 hx hm hI1
      rw [roundsIn_succ]
      refine wpIn_mono (body x hx a w1 hI1) fun e a' w' hq => ?_
      obtain ⟨g', s', hI', hK⟩ := hq
      cases e with
      | normal =>
        obtain ⟨x', g1, g2, g3, g4⟩ := hK
        exact ih x' a' w' g1 (by omega) (by rw [g3]; exact hI'.less g4)
      | exit id => exact ⟨g', s', hI', hK⟩
      | goto l => exact ⟨g', s', hI', hK⟩
      | ret => exact ⟨g', s', hI', hK⟩
      | panic c => exact ⟨g', s', hI', hK⟩
      | outgrown => exact ⟨g', s', hI', hK⟩
  exact wpIn_loop_rounds (μ x0 + 1) (key _ x0 a0 w h0 (by omega) (by rw [hg]; exact hI.less hle))
theorem YP.pure {g : Far ι} {s : St} {c : Code} {K : Exit → Far ι → St → Prop} {e : Exit} (hc : ∀ {F : Fence} {n : Nat} {P : Program} {Q : Exit → Act → World → Prop} {a : Act} {w : World}, Q e a w → c.wpIn F n P Q a w) (h : K e g s) : YP Y g s c K :=
  fun _ _ hI => hc ⟨g, s, hI, h⟩
end
end Go.AI


namespace Go.AI
open Go
open Go.RowKit (Below)

/-- A call of yield. -/
def isYield (s : St) (o : Oper) : Bool := match o.op with
  | .call c => match c.callee with
    | .value f => match ev s f with
      | .lit (.func (.yield _) _ _) => true
      | _ => false
    | _ => false
  | _ => false
section
variable {ι α : Type} (Y : YB ι α) (T : Tab) (keep : List Nat)
def yieldW (g : Far ι) (s : St) (o : Oper) (K : Far ι → St → Prop) : Prop := match o.op, o.dst with
  | .call c, some d => match c.callee with
    | .value f => match g, closedL (c.args.toList.map (ev s)) with
      | (false, k), some vs => ev s f = .lit (.func (.yield Y.l) #[] #[]) ∧ ∃ x, Y.ok k x ∧ vs.toArray = Y.vals x ∧
          K (false, Y.nxt k x) ⟨(d, .bool true) :: (Y.tm ++ closedT s.t), []⟩ ∧ K (true, Y.nxt k x) ⟨(d, .bool false) :: (Y.tm ++ closedT s.t), []⟩
      | _, _ => False
    | _ => False
  | _, _ => False
def awpOpsY (all : List Oper) (guards : List Nat) : List Oper → Far ι → St → (Far ι → St → Prop) → Prop
  | [], g, s, K => K g s
  | o :: rest, g, s, K => match wants all s o with
    | 0 => bif isYield s o then yieldW Y g s o fun g s => awpOpsY all guards rest g s K
      else opS T (ACalls Y.P) s o.dst o.type o.op fun s => goIf o.op s fun s => forceK guards o.dst s fun s => awpOpsY all guards rest g s K
    | 1 => putK s o.dst .undef fun s => awpOpsY all guards rest g s K
    | _ => False
def awpY : Code → Far ι → St → (Exit → Far ι → St → Prop) → Prop
  | .skip, g, s, K => K .normal g s
  | .label _, g, s, K => K .normal g s
  | .ret, g, s, K => K .ret g s
  | .exit j, g, s, K => K (.exit j) g s
  | .seq a b, g, s, K => awpY a g s fun e g s => match e with
    | .normal => awpY b g s K
    | e => K e g s
  | .cond c a b, g, s, K => match ev s c with
    | .bool t => (t = true → awpY a g s K) ∧ (t = false → awpY b g s K)
    | _ => False
  | .block id c, g, s, K => awpY c g s fun e g s => match e with
    | .exit j => bif Nat.beq j id then K .normal g s else K (.exit j) g s
    | e => K e g s
  | .region _ ops false, g, s, K => awpOpsY Y T ops.toList (guardsOf ops.toList ops.toList) ops.toList g s fun g s => keepK keep s (K .normal g)
  | c, g, s, K => YP Y g s c K
end

section
variable {ι α : Type} {Y : YB ι α} (hY : Y.OK) {T : Tab} (hT : T.OK Y.P) {keep : List Nat} {Q : Exit → Act → World → Prop} {next : Act → World → Prop}

theorem YI.inv {g : Far ι} {s : St} {a : Act} {w : World} (h : YI Y g s a w) : ∃ W0, (bif g.1 then Y.Jx g.2 W0 else Y.J g.2 W0) ∧ Inv (Y.base W0) s a w ∧ More W0 w := by
  obtain ⟨⟨W0, h1, h2, h3⟩, _, h4⟩ := h
  exact ⟨W0, h1, ⟨h2.ex, h2.size, ⟨[], by simpa [marks] using h4, List.nodup_nil, by simp⟩⟩, h3⟩
theorem YI.put {g : Far ι} {s s' : St} {a a' : Act} {w w' W0 : World} (h : YI Y g s a w) (hJ : (bif g.1 then Y.Jx g.2 W0 else Y.J g.2 W0)) (hI : Inv (Y.base W0) s' a' w') {dst : Option Nat} (hp : ∃ v, a' = a.put dst v) (hdr : More W0 w') (hd : tmOK Y.tm dst.toList = true) : YI Y g s' a' w' := by
  simp only [tmOK, Bool.and_eq_true] at hd
  have hF := FT.put hp
  refine ⟨⟨W0, hJ, hI.toT, hdr⟩, fun d x hx => ?_, ?_⟩
  · have hk : d ∈ keys Y.tm := mem_keys.2 (by rw [hx]; simp)
    rw [hF.tmps (fun hc => disj_spec hd.1 (List.mem_cons_of_mem _ hk) hc) (fun hc => disj_spec hd.2 (by simp) (hc ▸ hk))]
    exact h.tm d x hx
  · rw [hF.defers fun hc => disj_spec hd.1 List.mem_cons_self hc]; exact h.df
theorem tmOK_sub {tm : List (Nat × AV)} {ds es : List Nat} (h : tmOK tm ds = true) (hs : ∀ d ∈ es, d ∈ ds) : tmOK tm es = true := by
  simp only [tmOK, Bool.and_eq_true] at h ⊢
  refine ⟨List.all_eq_true.2 fun x hx => ?_, h.2⟩
  cases hm : memN es x with
  | false => rfl
  | true => exact (disj_spec h.1 hx (hs x (memN_iff.1 hm))).elim

include hY in
theorem yieldW_sound {g : Far ι} {s : St} {o : Oper} {a : Act} {w : World} {K : Far ι → St → Prop} (hI : YI Y g s a w) (hdst : ∀ d, o.dst = some d → d < Y.nt) (htm : tmOK Y.tm o.dst.toList = true) (h : yieldW Y g s o K)
    (hn : ∀ g' s' a' w', K g' s' → YI Y g' s' a' w' → next a' w') : o.wpIn Y.F Y.n Y.P a w next Q := by
  obtain ⟨W0, hJ, hInv, hdr⟩ := hI.inv
  have hG := hY.base W0
  unfold yieldW at h
  split at h
  · rename_i c d hop hd
    split at h
    · rename_i f hcal
      split at h
      · rename_i k vs hvs
        obtain ⟨hf, x, hx, hxv, hK1, hK2⟩ := h
        obtain ⟨⟨cx, hW, ht⟩, hsz, hdf⟩ := hInv
        have hfv : a.eval f = .func (.yield Y.l) #[] #[] := by
          have := ev_rel ht f
          rw [hf] at this
          have this : RD cx.m _ _ := this
          generalize a.eval f = u at this
          cases this
          rfl
        have hav := closedL_spec (c := cx) (ρ := a.eval) (fun y _ => ev_rel ht y) hvs
        have hJw : Y.J k w := hY.ab k W0 w hJ ⟨hW.ext, hdr⟩
        have hmw : Y.m.sub w := ⟨fun b o v hb => hW.sub.cell b o v (hW.le0.cell b o v hb), fun b x hb => hW.sub.map b x (hW.le0.map b x hb)⟩
        obtain ⟨fn, tmps, assign, body, hy, hR⟩ := hY.yld k x w hx hJw hmw
        have hargs : c.args.map a.eval = Y.vals x := by
          rw [← hxv, ← hav]
          apply Array.ext'
          simp
        have hrun : (execOp a.eval o).run Y.P w = .ok (.round Y.l fn tmps assign body) w := by
          simp only [execOp, hop, Sem.run_bind, resolve, hcal, hfv, Deferred.ofValue, Sem.run_pure, Result.andThen_ok, invoke, hargs]
          simpa using hy
        refine ⟨fun f _ => hG.fn f, ?_⟩
        rw [Oper.semAt_eq _ _ _ (by rw [hop]; intro c hc; cases hc), hrun, Oper.uponIn_round]
        refine ⟨fun h => (by rw [show Y.F.depth = none from hG.depth] at h; cases h), hR.mono ?_⟩
        have fin : ∀ (b : Bool) (w' : World), Y.m.sub w' → (bif !b then Y.Jx (Y.nxt k x) w' else Y.J (Y.nxt k x) w') → YI Y (!b, Y.nxt k x) ⟨(d, .bool b) :: (Y.tm ++ closedT s.t), []⟩ (a.put o.dst (.bool b)) w' := by
          intro b w' hm hj
          have hdl : d < a.tmps.size := by rw [hsz]; exact hdst d hd
          have hF : FT o.dst.toList a (a.put o.dst (.bool b)) := FT.put ⟨_, rfl⟩
          simp only [tmOK, Bool.and_eq_true] at htm
          have htm' : ∀ (d : Nat) (x : AV), get Y.tm d = some x → RD Y.m x ((a.put o.dst (.bool b)).tmps.getD d Go.undef) := fun e y hy => by
            have hk : e ∈ keys Y.tm := mem_keys.2 (by rw [hy]; simp)
            rw [hF.tmps (fun hc => disj_spec htm.1 (List.mem_cons_of_mem _ hk) hc) (fun hc => disj_spec htm.2 (by simp) (hc ▸ hk))]
            exact hI.tm e y hy
          refine ⟨⟨w', hj, ⟨⟨_, WI.init (Γ := Y.base w') hm rfl, fun e y hy => ?_⟩, by rw [size_put]; exact hsz⟩, .refl _⟩, htm', by rw [defers_put]; exact hI.df⟩
          refine RC.of_RD (c := ⟨_, _, _, Y.m, _, _⟩) ?_
          simp only [get_cons] at hy
          split at hy
          · rename_i hed
            cases hy
            rw [hd, getD_put _ _ _ _ hdl, if_pos hed]
            exact RD.bool b
          · rename_i hed
            rw [get_append] at hy
            cases hg : get Y.tm e with
            | some z => rw [hg] at hy; cases hy; exact htm' e _ hg
            | none =>
              rw [hg] at hy
              rw [hd, getD_put _ _ _ _ hdl, if_neg hed]
              exact closedT_get hy fun z hz => ht e z hz
        rintro e w' (⟨rfl, hj, hm⟩ | ⟨rfl, hj, hm⟩)
        · exact hn _ _ _ _ hK1 (fin true w' hm hj)
        · exact hn _ _ _ _ hK2 (fin false w' hm hj)
      · exact h.elim
    · exact h.elim
  · exact h.elim
end
end Go.AI


namespace Go.AI
open Go
open Go.RowKit (Below)
section
variable {ι α : Type} {Y : YB ι α} (hY : Y.OK) {T : Tab} (hT : T.OK Y.P) {keep : List Nat} {Q : Exit → Act → World → Prop} {next : Act → World → Prop}

include hY hT in
theorem awpOpsY_sound {all : List Oper} {guards : List Nat} (hall : ∀ j d, dstOf all j = some d → d < Y.nt) (htm : tmOK Y.tm (dstsOf all) = true) : ∀ (l : List Oper) (k : Nat) (g : Far ι) (s : St) (a : Act) (w : World) (K : Far ι → St → Prop),
    (∀ j, l[j]? = all[k + j]?) → awpOpsY Y T all guards l g s K → YI Y g s a w → (∀ g' s' a' w', K g' s' → YI Y g' s' a' w' → Q .normal a' w') → wpOpsIn Y.F Y.n Y.P all.toArray Q (List.range' k l.length) a w
  | [], k, g, s, a, w, K, _, h, hI, hQ => hQ g s a w h hI
  | o :: rest, k, g, s, a, w, K, hk, h, hI, hQ => by
    have h0 : all.toArray[k]? = some o := by simpa using (hk 0).symm
    have h0' : all[k]? = some o := by simpa using h0
    have hk' : ∀ j, rest[j]? = all[k + 1 + j]? := fun j => by have := hk (j + 1); simpa [Nat.add_assoc, Nat.add_comm 1 j] using this
    have hdst : ∀ d, o.dst = some d → d < Y.nt := fun d hd => hall k d (by rw [dstOf_eq, h0']; exact hd)
    have htd : tmOK Y.tm o.dst.toList = true := tmOK_sub htm fun d hd => mem_dstsOf h0' hd
    obtain ⟨W0, hJ, hInv, hdr⟩ := hI.inv
    have hG := hY.base W0
    simp only [List.length_cons, List.range'_succ, wpOpsIn, h0]
    simp only [awpOpsY] at h
    split at h
    · rename_i hw
      rw [wants_spec (Γ := Y.base W0) hall hInv 0 hw (by omega)]
      simp only [beq_self_eq_true, if_true]
      cases hy : isYield s o with
      | true =>
        rw [hy, cond_true] at h
        exact yieldW_sound hY hI hdst htd h fun g' s' a' w' hK hI' => awpOpsY_sound hall htm rest (k + 1) g' s' a' w' K hk' hK hI' hQ
      | false =>
        rw [hy, cond_false] at h
        refine opS_sound (Γ := Y.base W0) hG hT rfl hInv hdst h ?_
        intro s' a' w' hK hI' hN hP
        rw [goIf_eq] at hK
        obtain ⟨s2, hK2, hle⟩ := forceK_spec hK
        exact awpOpsY_sound hall htm rest (k + 1) g s2 a' w' K hk' hK2 ((hI.put hJ hI' hP (hdr.trans hN.more) htd).less hle) hQ
    · rename_i hw
      rw [wants_spec (Γ := Y.base W0) hall hInv 1 hw (by omega)]
      simp only [Nat.reduceBEq, Bool.false_eq_true, if_false]
      obtain ⟨s2, hK2, hI2⟩ := putK_undef hInv hdst h
      exact ⟨fun f _ => hG.fn f, awpOpsY_sound hall htm rest (k + 1) g s2 _ w K hk' hK2 (hI.put hJ hI2 ⟨_, rfl⟩ hdr htd) hQ⟩
    · exact h.elim

include hY hT in
theorem awpY_sound : ∀ (c : Code) (g : Far ι) (s : St) (K : Exit → Far ι → St → Prop), okCode Y.nt c = true → tmOK Y.tm (wrs c) = true → awpY Y T keep c g s K → YP Y g s c K
  | .skip, g, s, K, _, _, h => YP.pure wpIn_skip h
  | .label _, g, s, K, _, _, h => YP.pure wpIn_label h
  | .ret, g, s, K, _, _, h => YP.pure wpIn_ret h
  | .exit j, g, s, K, _, _, h => YP.pure wpIn_exit h
  | .seq a b, g, s, K, ho, ht, h => by
    simp only [okCode, Bool.and_eq_true] at ho
    refine YP.seq (awpY_sound a g s _ ho.1 (tmOK_sub ht fun d hd => List.mem_append_left _ hd) h) (fun g' s' h' => awpY_sound b g' s' K ho.2 (tmOK_sub ht fun d hd => List.mem_append_right _ hd) h') (fun e g' s' he h' => ?_)
    cases e <;> first | exact absurd rfl he | exact h'
  | .cond c x y, g, s, K, ho, htm, h => by
    simp only [okCode, Bool.and_eq_true] at ho
    intro a w hI
    simp only [awpY] at h
    split at h
    · rename_i t ht
      obtain ⟨W0, hJ, ⟨⟨cx, hW, htt⟩, _⟩, _⟩ := hI.inv
      have he : RC cx (.bool t) (a.eval c) := by
        have := ev_rel htt c
        rwa [ht] at this
      exact wpIn_cond_split he.bool (fun g1 => awpY_sound x g s K ho.1 (tmOK_sub htm fun d hd => List.mem_append_left _ hd) (h.1 g1) a w hI) (fun g1 => awpY_sound y g s K ho.2 (tmOK_sub htm fun d hd => List.mem_append_right _ hd) (h.2 g1) a w hI)
    · exact h.elim
  | .block id c, g, s, K, ho, ht, h => YP.block (awpY_sound c g s _ (by simpa [okCode] using ho) (by simpa [wrs] using ht) h)
  | .region id ops false, g, s, K, ho, ht, h => by
    intro a w hI
    obtain ⟨l⟩ := ops
    refine wpIn_region ?_
    rw [show (⟨l⟩ : Array Oper).size = l.length from rfl, List.range_eq_range']
    refine awpOpsY_sound hY hT (okDst_all ho) ht l 0 g s a w _ (fun j => by simp) h hI ?_
    intro g' s' a' w' hK hI'
    obtain ⟨s2, h2, hle⟩ := keepK_spec hK
    exact ⟨g', s2, hI'.less hle, h2⟩
  | .region _ _ true, g, s, K, _, _, h => h
  | .loop c, g, s, K, _, _, h => h
  | .rangeFunc _ _ _ _, g, s, K, _, _, h => h
  | .scope c, g, s, K, _, _, h => h
  | .goto _, g, s, K, _, _, h => h
  | .refuse _, g, s, K, _, _, h => h
end

/-- The end of an iterator. -/
structure EndsY (n : Nat) (e : Exit) (g : Far Nat) (s : St) : Prop where
  ex : e = .ret ∨ e = .normal
  all : g = (false, n) ∨ g.1 = true

/-- AN ITERATOR's CONTRACT, from its body. The function's one parameter is 'yield'; what it captures lies in the slots behind. -/
theorem ASeq.of {P : Program} {T : Tab} (hT : T.OK P) {α : Type} {vals : α → Array Value} {f : FuncId} {fn : Func} {body : Code} {cap : List AV} {items : List α} (keep : List Nat) (hf : P.funcs[f]? = some fn) (hb : fn.body = some body)
    (hname : (fn.name == "runtime.NumGoroutine") = false) (hm : P.follows .mixedOrders = true) (hok : okCode fn.ntmps body = true) (hn : cap.length + 1 ≤ fn.ntmps) (hres : fn.results = #[])
    (htm : ∀ l : Nat, tmOK (params 0 (.lit (.func (.yield l) #[] #[]) :: cap)) (wrs body) = true)
    (h : ∀ (F : Fence) (n : Nat) (m : Mem) (l : Nat) (J Jx : Nat → World → Prop), YB.OK ⟨P, F, n, fn.ntmps, m, l, J, Jx, fun k x => items[k]? = some x, fun k _ => k + 1, vals, params 0 (.lit (.func (.yield l) #[] #[]) :: cap)⟩ →
      awpY ⟨P, F, n, fn.ntmps, m, l, J, Jx, fun k x => items[k]? = some x, fun k _ => k + 1, vals, params 0 (.lit (.func (.yield l) #[] #[]) :: cap)⟩ T keep body (false, 0) ⟨params 0 (.lit (.func (.yield l) #[] #[]) :: cap), []⟩ fun e g s => EndsY items.length e g s) : ASeq P vals f cap items := by
  refine ⟨Go.Proofs.enters_of hf hname hb, fun m lb hl hr F n hfn hdep hal hro l J Jx W hs hab habx hyld hJ0 => ?_⟩
  let Y : YB Nat α := ⟨P, F, n, fn.ntmps, m, l, fun k => J (items.take k), fun _ => Jx, fun k x => items[k]? = some x, fun k _ => k + 1, vals, params 0 (.lit (.func (.yield l) #[] #[]) :: cap)⟩
  have hY : Y.OK := ⟨fun W => ⟨hfn, hdep, hal, hm⟩, hro, fun k W1 W2 h1 h2 => hab _ W1 W2 h1 h2.toI, fun _ W1 W2 h1 h2 => habx W1 W2 h1 h2.toI, fun k x W1 hx hJ hm => by
    have hlt := (List.getElem?_eq_some_iff.1 hx).1
    have hxx := (List.getElem?_eq_some_iff.1 hx).2
    have htk : items.take (k + 1) = items.take k ++ [x] := by rw [List.take_add_one, hx]; rfl
    have hz := hyld _ x W1 ⟨items.drop (k + 1), by rw [← hxx, ← List.drop_eq_getElem_cons hlt, List.take_append_drop]⟩ hJ hm
    rw [← htk] at hz
    obtain ⟨fn, tmps, asg, bd, q1, q2⟩ := hz
    exact ⟨fn, tmps, asg, bd, q1, q2.mono fun e W' h => h.imp (fun ⟨h1, h2, h3, _⟩ => ⟨h1, h2, h3⟩) id⟩⟩
  have hp := awpY_sound hY hT body _ _ _ hok (htm l) (h F n m l _ _ hY)
  have htv : ∀ (d : Nat) (x : AV), get (params 0 (.lit (.func (.yield l) #[] #[]) :: cap)) d = some x → RD m x ((#[Value.func (.yield l) #[] #[]] ++ lb ++ Array.replicate (fn.ntmps - (#[Value.func (.yield l) #[] #[]] ++ lb).size) Go.undef).getD d Go.undef) := by
    intro d x hx
    obtain ⟨_, h2⟩ := get_params _ _ _ _ hx
    simp only [Nat.sub_zero] at h2
    have hdl := (List.getElem?_eq_some_iff.1 h2).1
    simp only [List.length_cons] at hdl
    rw [Array.getD_eq_getD_getElem?, Array.getElem?_append_left (by simp; omega)]
    cases d with
    | zero =>
      simp at h2
      subst h2
      rw [Array.getElem?_append_left (by simp)]
      exact .lit (.func (.yield l) #[] #[]) rfl rfl
    | succ d =>
      simp at h2
      rw [Array.getElem?_append_right (by simp)]
      simp only [List.size_toArray, List.length_cons, List.length_nil, Nat.zero_add, Nat.add_sub_cancel]
      rw [Array.getElem?_eq_getElem (by omega)]
      exact hr d x _ h2 (Array.getElem?_eq_getElem (by omega))
  refine callsIn_of_wp hf hb (hfn f) (wpIn_mono (hp _ W ⟨⟨W, hJ0, ⟨⟨_, WI.init (Γ := Y.base W) hs rfl, fun d x hx => RC.of_RD (c := ⟨_, _, _, m, _, _⟩) (htv d x hx)⟩, ?_⟩, .refl _⟩, htv, rfl⟩) ?_) hro
  · simp only [YB.base, Array.size_append, Array.size_replicate, List.size_toArray, List.length_cons, List.length_nil]
    show _ = fn.ntmps
    omega
  · rintro e a' w' ⟨g', s', hI, ⟨he, hall⟩⟩
    have hpost : a'.defers = [] ∧ ∃ v, (results fn a'.tmps).run P w' = .ok v w' ∧ ((∃ u, Ending.returned v = .returned u) ∧ ((∃ p, p = items ∧ J p w') ∨ Jx w')) := by
      refine ⟨hI.df, .tuple #[], by simp [results, hres], ⟨_, rfl⟩, ?_⟩
      obtain ⟨W0, hJ, hT0, hdr⟩ := hI.ex
      obtain ⟨⟨c, hW, _⟩, _⟩ := hT0
      rcases hall with rfl | hg
      · exact .inl ⟨items, rfl, hab _ _ _ (by have hJ : J (items.take items.length) W0 := hJ; rwa [List.take_length] at hJ) (Gr.toI ⟨hW.ext, hdr⟩)⟩
      · rw [hg] at hJ
        exact .inr (habx _ _ hJ (Gr.toI ⟨hW.ext, hdr⟩))
    rcases he with rfl | rfl <;> exact hpost
end Go.AI


namespace Go.AI
open Go
def leT {α : Type} (t : List (Nat × α)) : List (Nat × α) → Prop
  | [] => True
  | (d, v) :: r => get t d = some v ∧ leT t r
theorem leT_spec {α : Type} {t : List (Nat × α)} : ∀ {t' : List (Nat × α)}, leT t t' → ∀ d x, get t' d = some x → get t d = some x
  | [], _, d, x, h => by simp [get] at h
  | (e, v) :: r, h, d, x, hx => by
    rw [get_cons] at hx
    split at hx
    · rename_i hd; subst hd; cases hx; exact h.1
    · exact leT_spec h.2 d x hx
theorem St.le.of {s s' : St} (ht : leT s.t s'.t) (hb : leT s.b s'.b) : s.le s' := ⟨leT_spec ht, fun d cs h _ => leT_spec hb d cs h⟩
end Go.AI
namespace Go.AI
open Go
/-- A contract serves where the arguments are known better. -/
theorem ACalls.args {P : Program} {f : FuncId} {us bs : List AV} {r : AV} (h : ACalls P f bs r) (hl : us.length = bs.length) (hw : ∀ (i : Nat) (a b : AV), us[i]? = some a → bs[i]? = some b → a.weak b) : ACalls P f us r := by
  refine ⟨h.1, fun m w vs hs hlen hr => h.2 m w vs hs (hl ▸ hlen) fun i x v h1 h2 => ?_⟩
  have hi : i < us.length := by rw [hl]; exact (List.getElem?_eq_some_iff.1 h1).1
  exact hw i _ x (List.getElem?_eq_getElem hi) h1 m v (hr i _ v (List.getElem?_eq_getElem hi) h2)
theorem AV.weak.sl {o : Own} {sz : Nat} {xs : List (List AV)} : (AV.sl o sz xs).weak (.sl .no sz xs) := fun _ _ h => h.no
inductive WeakL : List AV → List AV → Prop
  | nil : WeakL [] []
  | cons {a b : AV} {us bs : List AV} (h : a.weak b) (t : WeakL us bs) : WeakL (a :: us) (b :: bs)
theorem WeakL.refl : ∀ l : List AV, WeakL l l
  | [] => .nil
  | a :: l => .cons (.refl a) (WeakL.refl l)
theorem WeakL.spec {us bs : List AV} (h : WeakL us bs) : us.length = bs.length ∧ ∀ (i : Nat) (a b : AV), us[i]? = some a → bs[i]? = some b → a.weak b := by
  induction h with
  | nil => exact ⟨rfl, by simp⟩
  | cons h t ih =>
    refine ⟨by simp [ih.1], fun i a b h1 h2 => ?_⟩
    cases i with
    | zero => simp at h1 h2; subst h1; subst h2; exact h
    | succ i => exact ih.2 i a b (by simpa using h1) (by simpa using h2)
theorem ACalls.weak {P : Program} {f : FuncId} {us bs : List AV} {r : AV} (h : ACalls P f bs r) (hw : WeakL us bs) : ACalls P f us r := h.args hw.spec.1 hw.spec.2
/-- The first argument is a slice. -/
theorem ACalls.sl0 {P : Program} {f : FuncId} {o : Own} {sz : Nat} {xs : List (List AV)} {us : List AV} {r : AV} (h : ACalls P f (.sl .no sz xs :: us) r) : ACalls P f (.sl o sz xs :: us) r := h.weak (.cons .sl (.refl _))
theorem ACalls.sl1 {P : Program} {f : FuncId} {o : Own} {sz : Nat} {xs : List (List AV)} {a : AV} {us : List AV} {r : AV} (h : ACalls P f (a :: .sl .no sz xs :: us) r) : ACalls P f (a :: .sl o sz xs :: us) r := h.weak (.cons (.refl _) (.cons .sl (.refl _)))
end Go.AI


namespace Go.AI
open Go
section
variable {P : Program} {b : Frame} {a : Act} {k : List Item} {cs : List Frame} {w : World} {F : Fence} {n : Nat} {Q : Exit → Act → World → Prop}
theorem stepR_scope {c : Code} : step P (lone (b.atR a (.code (.scope c) :: k)) cs w) = .next (lone (b.atR a (.code c :: .inScope c :: k)) cs w) :=
  step_lone_go (by simp [stepG, stepG.exec, Frame.atR])
theorem stepR_inScope {c : Code} : step P (lone (b.atR a (.inScope c :: k)) cs w) = .next (lone (b.atR a k) cs w) :=
  step_lone_go (by simp [stepG, stepG.exec, Frame.atR])
/-- A scope through which the run goes without a jump. -/
theorem wpIn_scope {c : Code} (h : c.wpIn F n P (fun e a w => (∀ l, e ≠ .goto l) ∧ Q e a w) a w) : (Code.scope c).wpIn F n P Q a w := by
  intro b k cs hro hb hr
  have h0 : (lone (b.atR a (.code (.scope c) :: k)) cs w).fenced P F := fenced_calm hb hr rfl
  obtain ⟨e, a₁, w₁, ⟨hg, hq⟩, harr⟩ := h b (.inScope c :: k) cs hro hb hr
  cases e with
  | normal => exact ⟨.normal, a₁, w₁, hq, .head h0 stepR_scope (StepsIn.trans harr (.one (fenced_calm hb hr rfl) stepR_inScope))⟩
  | exit id =>
    have hx : exitTo id (.inScope c :: k) = exitTo id k := by simp [exitTo]
    exact ⟨.exit id, a₁, w₁, hq, fun k' hk => .head h0 stepR_scope (harr.1 k' (by rw [hx]; exact hk)),
      fun hr' hk => let ⟨k₁, h1, h2⟩ := harr.2 hr' (by rw [hx]; exact hk); ⟨k₁, h1, .head h0 stepR_scope h2⟩⟩
  | goto l => exact absurd rfl (hg l)
  | ret => exact ⟨_, a₁, w₁, hq, .of_steps (.one h0 stepR_scope) harr⟩
  | panic ch => exact ⟨_, a₁, w₁, hq, .of_steps (.one h0 stepR_scope) harr⟩
  | outgrown => exact ⟨_, a₁, w₁, hq, .of_steps (.one h0 stepR_scope) harr⟩
end
theorem SP.scope {Γ : Base} {s : St} {c : Code} {K : Exit → St → Prop} (h : SP Γ s c fun e s' => (∀ l, e ≠ .goto l) ∧ K e s') : SP Γ s (.scope c) K := by
  intro a w hI
  refine wpIn_scope (wpIn_mono (h a w hI) ?_)
  rintro e a' w' ⟨h1, h2, s', h3, h4, h5⟩
  exact ⟨h4, h1, h2, s', h3, h5⟩
/-- A body that is a scope. -/
theorem SP.scopeEnds {Γ : Base} {s : St} {c : Code} {T : Tab} {rs : List ResultVar} {r : AV} (h : SP Γ s c (Ends T rs r)) : SP Γ s (.scope c) (Ends T rs r) := by
  refine SP.scope fun a w hI => wpIn_mono (h a w hI) ?_
  rintro e a' w' ⟨h1, h2, s', h3, h4⟩
  exact ⟨h1, h2, s', h3, fun l hl => by rcases h4.ex with h | h <;> (rw [h] at hl; cases hl), h4⟩
end Go.AI


namespace Go.AI
open Go Go.ChangeShapes Go.WideShapes Go.RowKit

/-- The shape of a cell. -/
inductive Sh where
  | int (k : IntKind) | bool | str | sl (e : List Sh)
def Fa {α β : Type} (R : α → β → Prop) : List α → List β → Prop
  | [], [] => True
  | a :: l, b :: r => R a b ∧ Fa R l r
  | _, _ => False
theorem Fa.mono {α β : Type} {R S : α → β → Prop} (h : ∀ a b, R a b → S a b) : ∀ {l : List α} {r : List β}, Fa R l r → Fa S l r
  | [], [], _ => trivial
  | _ :: _, _ :: _, g => ⟨h _ _ g.1, Fa.mono h g.2⟩
  | [], _ :: _, g => g
  | _ :: _, [], g => g
theorem Fa.length {α β : Type} {R : α → β → Prop} : ∀ {l : List α} {r : List β}, Fa R l r → l.length = r.length
  | [], [], _ => rfl
  | _ :: _, _ :: _, g => by simp [Fa.length g.2]
  | [], _ :: _, g => g.elim
  | _ :: _, [], g => g.elim
theorem Fa.append {α β : Type} {R : α → β → Prop} : ∀ {l l2 : List α} {r r2 : List β}, Fa R l r → Fa R l2 r2 → Fa R (l ++ l2) (r ++ r2)
  | [], _, [], _, _, h => h
  | _ :: _, _, _ :: _, _, g, h => ⟨g.1, Fa.append g.2 h⟩
  | [], _, _ :: _, _, g, _ => g.elim
  | _ :: _, _, [], _, g, _ => g.elim
theorem Fa.mem {α β : Type} {R : α → β → Prop} : ∀ {l : List α} {r : List β}, Fa R l r → ∀ b ∈ r, ∃ a, R a b
  | [], [], _, _, h => nomatch h
  | a :: _, b :: _, g, c, h => by
    rcases List.mem_cons.1 h with rfl | h
    · exact ⟨a, g.1⟩
    · exact Fa.mem g.2 c h
  | [], _ :: _, g, _, _ => g.elim
  | _ :: _, [], g, _, _ => g.elim
def ShOK : Nat → Sh → AV → Prop
  | 0, _, _ => False
  | _ + 1, .int k, a => ∃ z, a = .int k z ∧ k.min ≤ z ∧ z ≤ k.max
  | _ + 1, .bool, a => ∃ b, a = .bool b
  | _ + 1, .str, a => ∃ s, a = .str s
  | n + 1, .sl e, a => ∃ xs, a = .sl .no e.length xs ∧ ∀ x ∈ xs, Fa (ShOK n) e x
theorem ShOK.mono : ∀ {n : Nat} {s : Sh} {a : AV}, ShOK n s a → ShOK (n + 1) s a
  | 0, _, _, h => h.elim
  | _ + 1, .int _, _, h => h
  | _ + 1, .bool, _, h => h
  | _ + 1, .str, _, h => h
  | n + 1, .sl e, a, h => by
    obtain ⟨xs, h1, h2⟩ := h
    exact ⟨xs, h1, fun x hx => (h2 x hx).mono fun _ _ => ShOK.mono⟩
theorem ShOK.cell : ∀ {n : Nat} {s : Sh} {a : AV}, ShOK n s a → a.isCell = true
  | 0, _, _, h => h.elim
  | _ + 1, .int _, _, ⟨_, h, _⟩ => by rw [h]; rfl
  | _ + 1, .bool, _, ⟨_, h⟩ => by rw [h]; rfl
  | _ + 1, .str, _, ⟨_, h⟩ => by rw [h]; rfl
  | _ + 1, .sl _, _, ⟨_, h, _⟩ => by rw [h]; rfl

def shFields (P : Program) (g : TypeId → Option (List Sh)) : List Field → Nat → Option (List Sh)
  | [], _ => some []
  | f :: r, off => match g f.type with
    | some l => bif Nat.beq f.offset off && Nat.beq l.length (P.cellsOf f.type) then (match shFields P g r (off + l.length) with | some l2 => some (l ++ l2) | none => none) else none
    | none => none
def repL {α : Type} : Nat → List α → List α
  | 0, _ => []
  | n + 1, l => l ++ repL n l
/-- A type's cells. -/
def shOf (P : Program) : Nat → TypeId → Option (List Sh)
  | 0, _ => none
  | n + 1, t => match P.underlying t with
    | some .bool => some [.bool]
    | some (.int k) => some [.int k]
    | some .string => some [.str]
    | some (.slice e) => match shOf P n e with
      | some (a :: l) => bif Nat.beq (P.cellsOf e) (l.length + 1) then some [.sl (a :: l)] else none
      | _ => none
    | some (.struct fs) => match shFields P (shOf P n) fs.toList 0 with
      | some l => bif Nat.beq (P.cellsOf t) l.length then some l else none
      | none => none
    | some (.array m e) => match shOf P n e with
      | some l => bif Nat.beq l.length (P.cellsOf e) && Nat.beq (P.cellsOf t) (m * l.length) then some (repL m l) else none
      | none => none
    | _ => none

def memOf (w : World) : Mem := ⟨fun b o => w.cell? ⟨b, o, none⟩, fun b => match w.heap[b]? with | some (.map es k) => some (es, k) | _ => none⟩
theorem memOf_sub (w : World) : (memOf w).sub w := ⟨fun _ _ _ h => h, fun b x h => by
  simp only [memOf] at h
  split at h
  · cases h; assumption
  · cases h⟩
/-- Cells that read as they should. -/
def Opens (m : Mem) (n : Nat) (L : List Sh) (cs : List Value) : Prop := ∃ avs : List AV, Fa (ShOK n) L avs ∧ avs.length = cs.length ∧ ∀ (i : Nat) (a : AV) (v : Value), avs[i]? = some a → cs[i]? = some v → RD m a v
theorem Opens.mono {m : Mem} {n : Nat} {L : List Sh} {cs : List Value} (h : Opens m n L cs) : Opens m (n + 1) L cs := by
  obtain ⟨avs, h1, h2⟩ := h
  exact ⟨avs, h1.mono fun _ _ => ShOK.mono, h2⟩
theorem Opens.nil {m : Mem} {n : Nat} : Opens m n [] [] := ⟨[], trivial, rfl, by simp⟩
theorem Opens.append {m : Mem} {n : Nat} {L L2 : List Sh} {cs cs2 : List Value} (h : Opens m n L cs) (g : Opens m n L2 cs2) : Opens m n (L ++ L2) (cs ++ cs2) := by
  obtain ⟨avs, h1, h2, h3⟩ := h
  obtain ⟨avs2, g1, g2, g3⟩ := g
  refine ⟨avs ++ avs2, h1.append g1, by simp [h2, g2], fun i a v e1 e2 => ?_⟩
  by_cases hi : i < avs.length
  · rw [List.getElem?_append_left hi] at e1
    rw [List.getElem?_append_left (by omega)] at e2
    exact h3 i a v e1 e2
  · rw [List.getElem?_append_right (by omega)] at e1
    rw [List.getElem?_append_right (by omega), ← h2] at e2
    exact g3 _ a v e1 e2
theorem Opens.one {m : Mem} {n : Nat} {s : Sh} {a : AV} {v : Value} (h : ShOK n s a) (hr : RD m a v) : Opens m n [s] [v] :=
  ⟨[a], ⟨h, trivial⟩, rfl, fun i x u h1 h2 => by
    cases i with
    | zero => simp at h1 h2; subst h1; subst h2; exact hr
    | succ i => simp at h1⟩

section
variable {H : Type} {enc : TypeId × Value → H} {P : Program} {w : World} {sp : Nat → Bool} {held : Bool}
theorem opens_fields {n : Nat} {g : TypeId → Option (List Sh)} {fuel : Nat} (hg : ∀ t L cs x, g t = some L → DataW.trod enc P w 0 sp held fuel t cs = some x → Opens (memOf w) n L cs) :
    ∀ (fs : List Field) (off : Nat) (L : List Sh) (cs : List Value), shFields P g fs off = some L → cs.length = off + L.length → (∀ f ∈ fs, ∃ x, DataW.trod enc P w 0 sp held fuel f.type ((cs.drop f.offset).take (P.cellsOf f.type)) = some x) →
    Opens (memOf w) n L (cs.drop off)
  | [], off, L, cs, h, hl, _ => by
    simp only [shFields, Option.some.injEq] at h
    subst h
    rw [List.drop_of_length_le (by simp at hl; omega)]
    exact .nil
  | f :: r, off, L, cs, h, hl, hx => by
    simp only [shFields] at h
    split at h
    · rename_i l hl1
      cases hb : (Nat.beq f.offset off && Nat.beq l.length (P.cellsOf f.type)) with
      | false => rw [hb] at h; cases h
      | true =>
        rw [hb, cond_true] at h
        have hb1 := Nat.eq_of_beq_eq_true (Bool.and_eq_true_iff.1 hb).1
        have hb2 := Nat.eq_of_beq_eq_true (Bool.and_eq_true_iff.1 hb).2
        split at h
        · rename_i l2 hl2
          simp only [Option.some.injEq] at h
          subst h
          obtain ⟨x, hx1⟩ := hx f List.mem_cons_self
          have h1 := hg _ _ _ _ hl1 hx1
          rw [hb1, ← hb2] at h1
          have h2 := opens_fields hg r _ _ cs hl2 (by simp at hl; omega) (fun f hf => hx f (List.mem_cons_of_mem _ hf))
          have := h1.append h2
          rw [← List.drop_drop] at this
          rwa [List.take_append_drop] at this
        · cases h
    · cases h
theorem opens_rep {n : Nat} {l : List Sh} {fuel : Nat} {e : TypeId} (hg : ∀ cs x, DataW.trod enc P w 0 sp held fuel e cs = some x → Opens (memOf w) n l cs) (hc : l.length = P.cellsOf e) :
    ∀ (k : Nat) (cs : List Value), cs.length = k * l.length → (∀ i, i < k → ∃ x, DataW.trod enc P w 0 sp held fuel e ((cs.drop (i * P.cellsOf e)).take (P.cellsOf e)) = some x) → Opens (memOf w) n (repL k l) cs
  | 0, cs, hl, _ => by
    have : cs = [] := List.length_eq_zero_iff.1 (by simpa using hl)
    subst this
    exact .nil
  | k + 1, cs, hl, hx => by
    obtain ⟨x, hx1⟩ := hx 0 (by omega)
    simp only [Nat.zero_mul, List.drop_zero] at hx1
    have h1 := hg _ _ hx1
    have h2 := opens_rep hg hc k (cs.drop (P.cellsOf e)) (by rw [List.length_drop, hl, ← hc, Nat.add_mul]; omega) (fun i hi => by
      obtain ⟨x, hx2⟩ := hx (i + 1) (by omega)
      refine ⟨x, ?_⟩
      rw [List.drop_drop, ← hx2]
      congr 3
      rw [Nat.add_mul, Nat.one_mul, Nat.add_comm])
    have := h1.append h2
    rwa [List.take_append_drop] at this
theorem addr_addS {a : Addr} (h : a.spot = none) (n : Nat) : a.add n = ⟨a.block, a.off + n, none⟩ := by
  obtain ⟨b, o, s⟩ := a
  simp only at h
  subst h
  unfold Addr.add
  split
  · rename_i h; subst h; rfl
  · rfl
theorem opens_of : ∀ (n : Nat) (t : TypeId) (L : List Sh), shOf P n t = some L → ∀ (fuel : Nat) (cs : List Value) (x : DataW H × List MemPlace), DataW.trod enc P w 0 sp held fuel t cs = some x → Opens (memOf w) n L cs
  | 0, _, _, h => by cases h
  | n + 1, t, L, h => by
    intro fuel cs x hx
    simp only [shOf] at h
    split at h
    · rename_i ht
      cases h
      obtain ⟨b, rfl, _⟩ := DataW.trod_bool ht hx
      exact .one (a := .bool b) ⟨b, rfl⟩ (.bool b)
    · rename_i k ht
      cases h
      obtain ⟨z, rfl, _, hw⟩ := DataW.trod_int ht hx
      simp only [Lit.wf, Bool.and_eq_true, decide_eq_true_eq] at hw
      exact .one (a := .int k z) ⟨z, rfl, hw.1, hw.2⟩ (.int k z)
    · rename_i ht
      cases h
      obtain ⟨s, rfl, _⟩ := DataW.trod_string ht hx
      exact .one (a := .str s) ⟨s, rfl⟩ (.str s)
    · rename_i e ht
      split at h
      · rename_i a l hl
        cases hb : Nat.beq (P.cellsOf e) (l.length + 1) with
        | false => rw [hb] at h; cases h
        | true =>
          rw [hb, cond_true] at h
          cases h
          have hb := Nat.eq_of_beq_eq_true hb
          rcases DataW.trod_slice ht hx with ⟨rfl, _⟩ | ⟨ad, len, cap, elems, rest, m, rfl, rfl, _, _, hlc, _, hel, hget, _, _⟩
          · refine .one (a := .sl .no (a :: l).length []) ⟨[], rfl, by simp⟩ ?_
            exact .sl _ _ _ _ _ _ (by intro k hk; cases hk) (by intro hk; cases hk) rfl (Nat.le_refl _) (by simp) (by simp) 0 0 (by omega) (fun _ _ => Go.undef) (by simp) (by simp)
          · have each : ∀ i, i < len → ∃ ci, w.cells? 0 (ad.add (i * P.cellsOf e)) (P.cellsOf e) = some ci ∧ Opens (memOf w) n (a :: l) ci := by
              intro i hi
              have := hget i hi
              rw [List.getElem?_eq_getElem (by omega)] at this
              obtain ⟨ci, h1, h2⟩ := Option.bind_eq_some_iff.1 this
              exact ⟨ci, h1, opens_of n e _ hl _ _ _ h2⟩
            let f : Nat → List AV := fun i => if h : i < len then Classical.choose (Classical.choose_spec (each i h)).2 else []
            have hf : ∀ i, i < len → ∃ ci, w.cells? 0 (ad.add (i * P.cellsOf e)) (P.cellsOf e) = some ci ∧ Fa (ShOK n) (a :: l) (f i) ∧ (f i).length = ci.length ∧ ∀ (j : Nat) (c : AV) (v : Value), (f i)[j]? = some c → ci[j]? = some v → RD (memOf w) c v := by
              intro i hi
              refine ⟨_, (Classical.choose_spec (each i hi)).1, ?_⟩
              simp only [f, hi, dif_pos]
              exact Classical.choose_spec (Classical.choose_spec (each i hi)).2
            have hlen : ∀ i, i < len → (f i).length = l.length + 1 := fun i hi => by
              obtain ⟨ci, _, h2, _⟩ := hf i hi
              have := h2.length
              simpa using this.symm
            have hspot : 0 < len → ad = ⟨ad.block, ad.off, none⟩ := by
              intro hpos
              obtain ⟨ci, h1, _⟩ := hf 0 hpos
              have h3 := (World.cells?_some h1).2.2 0 (by omega)
              have hcl := (World.cells?_some h1).2.1
              rw [List.getElem?_eq_getElem (by omega)] at h3
              have : ad.spot = none := by
                simp only [Nat.zero_mul, Addr.add, if_true] at h3
                simp only [World.cell?] at h3
                split at h3
                · cases hs : ad.spot with
                  | none => rfl
                  | some q => rw [hs] at h3; simp at h3
                · cases h3
              obtain ⟨b, o, s⟩ := ad
              simp only at this
              subst this
              rfl
            have hcell : ∀ i j, i < len → j < P.cellsOf e → ∀ ci, w.cells? 0 (ad.add (i * P.cellsOf e)) (P.cellsOf e) = some ci → w.cell? ⟨ad.block, ad.off + i * P.cellsOf e + j, none⟩ = ci[j]? := by
              intro i j hi hj ci h1
              have h3 := (World.cells?_some h1).2.2 j hj
              have hs : ad.spot = none := by rw [hspot (by omega)]
              rw [addr_addS hs, addr_addS rfl] at h3
              exact h3
            have hxs : ∀ (i : Nat) (x : List AV), ((List.range len).map f)[i]? = some x → i < len ∧ x = f i := by
              intro i x h
              rw [List.getElem?_map] at h
              obtain ⟨k, h1, h2⟩ := Option.map_eq_some_iff.1 h
              obtain ⟨h3, h4⟩ := List.getElem?_eq_some_iff.1 h1
              simp only [List.length_range] at h3
              simp only [List.getElem_range] at h4
              subst h4
              exact ⟨h3, h2.symm⟩
            have hmem : ∀ x ∈ (List.range len).map f, ∃ i, i < len ∧ x = f i := by
              intro x hx
              obtain ⟨i, h1, h2⟩ := List.mem_map.1 hx
              exact ⟨i, List.mem_range.1 h1, h2.symm⟩
            refine .one (a := .sl .no (a :: l).length ((List.range len).map f)) ⟨_, rfl, fun x hx => ?_⟩ ?_
            · obtain ⟨i, hi, rfl⟩ := hmem x hx
              obtain ⟨ci, _, h2, _⟩ := hf i hi
              exact h2
            · refine .sl _ _ _ _ len cap (by intro k hk; cases hk) (by intro hk; cases hk) (by simp) hlc (fun x hx => ?_) (fun x hx c hc => ?_) ad.block ad.off (fun h => by rw [← hspot h]) (fun i j => (w.cell? ⟨ad.block, ad.off + i * P.cellsOf e + j, none⟩).getD Go.undef) ?_ ?_
              · obtain ⟨i, hi, rfl⟩ := hmem x hx
                rw [hlen i hi]; rfl
              · obtain ⟨i, hi, rfl⟩ := hmem x hx
                obtain ⟨ci, _, h2, _⟩ := hf i hi
                obtain ⟨s, hs⟩ := h2.mem c hc
                exact hs.cell
              · intro i x j c h1 h2
                obtain ⟨hi, rfl⟩ := hxs i x h1
                have hj : j < P.cellsOf e := by have := (List.getElem?_eq_some_iff.1 h2).1; rw [hlen i hi] at this; omega
                obtain ⟨ci, g1, _, g3, _⟩ := hf i hi
                have := hcell i j hi hj ci g1
                rw [List.getElem?_eq_getElem (by have := (World.cells?_some g1).2.1; omega)] at this
                show w.cell? ⟨ad.block, ad.off + i * (l.length + 1) + j, none⟩ = _
                rw [← hb, this]; rfl
              · intro i x j c h1 h2
                obtain ⟨hi, rfl⟩ := hxs i x h1
                have hj : j < P.cellsOf e := by have := (List.getElem?_eq_some_iff.1 h2).1; rw [hlen i hi] at this; omega
                obtain ⟨ci, g1, _, g3, g4⟩ := hf i hi
                have := hcell i j hi hj ci g1
                rw [List.getElem?_eq_getElem (by have := (World.cells?_some g1).2.1; omega)] at this
                refine g4 j c _ h2 ?_
                simp only [this, Option.getD_some]
                exact List.getElem?_eq_getElem _
      · cases h
    · rename_i fs ht
      split at h
      · rename_i l hl
        cases hb : Nat.beq (P.cellsOf t) l.length with
        | false => rw [hb] at h; cases h
        | true =>
          rw [hb, cond_true] at h
          cases h
          have hb := Nat.eq_of_beq_eq_true hb
          obtain ⟨xs, m, rfl, _, hlen, hxl, hf⟩ := DataW.trod_struct ht hx
          have := opens_fields (fuel := m) (fun t L cs x h1 h2 => opens_of n t L h1 m cs x h2) fs.toList 0 _ cs hl (by omega) (fun f hf2 => by
            obtain ⟨i, hi1, hi2⟩ := List.getElem_of_mem hf2
            have := hf i f (by simp at hi1 hi2; simp [Array.getElem?_eq_getElem hi1, hi2])
            rw [this]
            exact ⟨xs[i]'(by simp at hi1; omega), List.getElem?_eq_getElem _⟩)
          exact Opens.mono (by simpa using this)
      · cases h
    · rename_i m e ht
      split at h
      · rename_i l hl
        cases hb : (Nat.beq l.length (P.cellsOf e) && Nat.beq (P.cellsOf t) (m * l.length)) with
        | false => rw [hb] at h; cases h
        | true =>
          rw [hb, cond_true] at h
          cases h
          have hb1 := Nat.eq_of_beq_eq_true (Bool.and_eq_true_iff.1 hb).1
          have hb2 := Nat.eq_of_beq_eq_true (Bool.and_eq_true_iff.1 hb).2
          obtain ⟨xs, q, rfl, _, hlen, hxl, hf⟩ := DataW.trod_array ht hx
          refine Opens.mono (opens_rep (fun cs x h2 => opens_of n e l hl q cs x h2) hb1 m cs (by omega) (fun i hi => ?_))
          rw [hf i hi]
          exact ⟨xs[i]'(by omega), List.getElem?_eq_getElem _⟩
      · cases h
    · cases h
end
end Go.AI


namespace Go.AI
open Go Go.ChangeShapes Go.WideShapes Go.RowKit

def PArgs (n : Nat) : List (Bool × List Sh) → List AV → Prop
  | [], [] => True
  | (b, L) :: r, a :: q => (bif b then ∃ cs, a = .agg cs ∧ Fa (ShOK n) L cs else ∃ s, L = [s] ∧ ShOK n s a) ∧ PArgs n r q
  | _, _ => False
def paramSh (P : Program) (n : Nat) : List TypeId → Option (List (Bool × List Sh))
  | [] => some []
  | t :: r => match P.underlying t, shOf P n t, paramSh P n r with
    | some (.struct _), some l, some q => some ((true, l) :: q)
    | some (.array _ _), some l, some q => some ((true, l) :: q)
    | some .bool, some [s], some q => some ((false, [s]) :: q)
    | some (.int _), some [s], some q => some ((false, [s]) :: q)
    | some .string, some [s], some q => some ((false, [s]) :: q)
    | some (.slice _), some [s], some q => some ((false, [s]) :: q)
    | _, _, _ => none

section
variable {H : Type} {enc : TypeId × Value → H} {P : Program} {w : World} {sp : Nat → Bool} {held : Bool} {r : Reach} {b0 : Nat}
theorem arg_agg {n : Nat} {t : TypeId} {L : List Sh} {v : Value} {d : DataW H} {ps : List MemPlace} (hs : shOf P n t = some L) (hv : ∃ cs, v = .agg cs ∧ cs.size = P.cellsOf t ∧ Row.okWide P w r b0 t cs) (h : DataW.Trod enc P w 0 sp held t v d ps) :
    ∃ a, (∃ cs, a = .agg cs ∧ Fa (ShOK n) L cs) ∧ RD (memOf w) a v := by
  obtain ⟨cs, rfl, _, _⟩ := hv
  obtain ⟨fuel, hf⟩ := h
  obtain ⟨avs, h1, h2, h3⟩ := opens_of n t L hs fuel _ _ hf
  simp only [Value.cells] at h2 h3
  refine ⟨.agg avs, ⟨avs, rfl, h1⟩, .agg avs cs (by simpa using h2) (fun x hx => ?_) (fun i x v g1 g2 => h3 i x v g1 (by simpa using g2))⟩
  obtain ⟨s, hs⟩ := h1.mem x hx
  exact hs.cell
theorem arg_one {n : Nat} {t : TypeId} {s : Sh} {v : Value} {d : DataW H} {ps : List MemPlace} (hs : shOf P n t = some [s]) (hv : v.cells = #[v]) (h : DataW.Trod enc P w 0 sp held t v d ps) :
    ∃ a, (∃ s', [s] = [s'] ∧ ShOK n s' a) ∧ RD (memOf w) a v := by
  obtain ⟨fuel, hf⟩ := h
  obtain ⟨avs, h1, h2, h3⟩ := opens_of n t [s] hs fuel _ _ hf
  rw [hv] at h2 h3
  match avs, h1 with
  | [a], h1 => exact ⟨a, ⟨s, rfl, h1.1⟩, h3 0 a v rfl rfl⟩
  | [], h1 => exact h1.elim
  | _ :: _ :: _, h1 => exact h1.2.elim
theorem args_of {n : Nat} : ∀ (ts : List TypeId) (sh : List (Bool × List Sh)), paramSh P n ts = some sh → ∀ (vs : List Value) (ds : List (DataW H)) (ps : List MemPlace), DataW.TrodAll enc P w 0 sp held ts vs ds ps →
    (∀ (j : Nat) (t : TypeId) (v : Value), ts[j]? = some t → vs[j]? = some v → Value.okWide P w r b0 t v) →
    ∃ avs, PArgs n sh avs ∧ avs.length = vs.length ∧ ∀ (i : Nat) (a : AV) (v : Value), avs[i]? = some a → vs[i]? = some v → RD (memOf w) a v
  | [], sh, h, vs, ds, ps, ht, _ => by
    simp only [paramSh, Option.some.injEq] at h
    subst h
    obtain ⟨rfl, rfl, rfl⟩ := trodAll_nil ht
    exact ⟨[], trivial, rfl, by simp⟩
  | t :: ts, sh, h, vs, ds, ps, ht, hv => by
    obtain ⟨v, vs, d, ds', p, q, rfl, rfl, rfl, hd, hrest⟩ := trodAll_cons ht
    have hv0 := hv 0 t v rfl rfl
    have key : ∀ (b : Bool) (L : List Sh) (rest : List (Bool × List Sh)), paramSh P n ts = some rest → sh = (b, L) :: rest → (∃ a, (bif b then ∃ cs, a = .agg cs ∧ Fa (ShOK n) L cs else ∃ s, L = [s] ∧ ShOK n s a) ∧ RD (memOf w) a v) →
        ∃ avs, PArgs n sh avs ∧ avs.length = (v :: vs).length ∧ ∀ (i : Nat) (a : AV) (u : Value), avs[i]? = some a → (v :: vs)[i]? = some u → RD (memOf w) a u := by
      rintro b L rest hr rfl ⟨a, ha, hra⟩
      obtain ⟨avs, h1, h2, h3⟩ := args_of ts rest hr vs ds' q hrest (fun j t v g1 g2 => hv (j + 1) t v g1 g2)
      refine ⟨a :: avs, ⟨ha, h1⟩, by simp [h2], fun i x u g1 g2 => ?_⟩
      cases i with
      | zero => simp at g1 g2; subst g1; subst g2; exact hra
      | succ i => exact h3 i x u (by simpa using g1) (by simpa using g2)
    simp only [paramSh] at h
    split at h
    · rename_i hu hs hq; cases h
      exact key _ _ _ hq rfl (by simpa using arg_agg hs (by simpa [Value.okWide, hu] using hv0) hd)
    · rename_i hu hs hq; cases h
      exact key _ _ _ hq rfl (by simpa using arg_agg hs (by simpa [Value.okWide, hu] using hv0) hd)
    · rename_i hu hs hq; cases h
      exact key _ _ _ hq rfl (by obtain ⟨b, rfl⟩ := okWide_bool hu hv0; simpa using arg_one hs rfl hd)
    · rename_i hu hs hq; cases h
      exact key _ _ _ hq rfl (by obtain ⟨b, rfl⟩ := okWide_int hu hv0; simpa using arg_one hs rfl hd)
    · rename_i hu hs hq; cases h
      exact key _ _ _ hq rfl (by obtain ⟨b, rfl⟩ := okWide_string hu hv0; simpa using arg_one hs rfl hd)
    · rename_i hu hs hq; cases h
      exact key _ _ _ hq rfl (by obtain ⟨a, l, c, rfl⟩ := okWide_slice hu hv0; simpa using arg_one hs rfl hd)
    · cases h
end

/-- Arguments read on as they read. -/
theorem args_stay {H : Type} {enc : TypeId × Value → H} {P : Program} (hl : laidOutB P = true) {w w' : World} (hb : Below w.heap.size w w') {sp : Nat → Bool} :
    ∀ {ts : List TypeId} {vs : List Value} {ds : List (DataW H)} {ps : List MemPlace}, (∀ t ∈ ts, P.readableRec t = true ∧ t < P.types.size) → DataW.TrodAll enc P w 0 (fun _ => true) true ts vs ds ps → (∀ x ∈ ps, x.block < w.heap.size) → (∀ x ∈ ps, sp x.block = true) →
      DataW.TrodAll enc P w' 0 sp true ts vs ds ps
  | [], _, _, _, _, h, _, _ => by obtain ⟨rfl, rfl, rfl⟩ := trodAll_nil h; rfl
  | t :: ts, vs, ds, ps, hr, h, hlt, hsp => by
    obtain ⟨v, vs', d, ds', p, q, rfl, rfl, rfl, hd, hrest⟩ := trodAll_cons h
    refine ⟨p, q, WideElems.Trod_stays hl (hr t List.mem_cons_self).1 (hr t List.mem_cons_self).2 hd (fun x hx => hb.same (hlt x (List.mem_append_left _ hx))) (fun x hx => hsp x (List.mem_append_left _ hx)),
      args_stay hl hb (fun t ht => hr t (List.mem_cons_of_mem _ ht)) hrest (fun x hx => hlt x (List.mem_append_right _ hx)) (fun x hx => hsp x (List.mem_append_right _ hx)), rfl⟩

/-- A LAW's CLAIM, lifted: called with arguments that read as their types say, it answers true. -/
theorem law_lifted {H : Type} {enc : TypeId × Value → H} {C : Checked} {os : Os} {f : FuncId} {fn : Func} {s : ChangeSpec} {conds : List PathCond} {fresh handsOn again : Bool} {n : Nat} {sh : List (Bool × List Sh)} {tb : TypeId}
    (own : ownKnob C.prog.godebug = none) (started : os.Started) (noInit : C.prog.inits.idxOf? f = none) (hfn : C.prog.funcs[f]? = some fn)
    (witness : ∃ (w : World) (tape : Tape) (i : Input), w.os = os ∧ (w.forCall tape i).Shaped C.prog ∧ i.vars = [] ∧ Input.okWide C.prog (w.forCall tape i) .any w.heap.size f i ∧
      s.pre6 enc C.prog fn conds false (w.forCall tape i).memory i.args ∧ ({} : Assume).holds C.prog (lone (Frame.enter C.prog f i.args .normal) [] (w.forCall tape i)))
    (hvars : s.vars = []) (hres : fn.resultTypes = #[tb]) (htb : C.prog.underlying tb = some .bool)
    (hspec : ∀ ds : List (DataW H), ds.length = fn.params.size → s.fn H ds = { results := [.lit (.bool true)], args := ds })
    (hsh : paramSh C.prog n fn.params.toList = some sh) (hl : laidOutB C.prog = true) (hread : ∀ t ∈ fn.params.toList, C.prog.readableRec t = true ∧ t < C.prog.types.size)
    (law : ∀ avs, PArgs n sh avs → ACalls C.prog f avs (.bool true)) :
    ReturnsInHanded {} C os f .any (s.pre6 enc C.prog fn conds false) (s.post enc C.prog fn false fresh handsOn again) := by
  refine returnsInHanded_of_change own started noInit hfn witness ?_
  intro W base args ds gs before hval hW _ _
  have hW' := hW
  have hlt := hW.lt
  obtain ⟨p, q, hA, hV, rfl, hfz, hnd⟩ := hW
  rw [hvars] at hV
  obtain ⟨rfl, rfl⟩ := trodVars_none hV
  simp only [List.append_nil] at hW' hlt hfz
  obtain ⟨avs, h1, h2, h3⟩ := args_of fn.params.toList sh hsh args.toList ds p hA (fun j t v g1 g2 => hval j t v (by simpa using g1) (by simpa using g2))
  have hc := (law avs h1).2 (memOf W) W args.toList (memOf_sub W) h2 h3
  refine hc.mono ?_
  rintro e W' ⟨v, m', rfl, hrd, _, _, hbel, _⟩
  have hv : v = .bool true := by cases hrd; rfl
  subst hv
  refine ⟨_, rfl, ?_⟩
  have hds : ds.length = fn.params.size := by have := (Go.trodAll_length hA).2; simpa using this
  have hsp := hspec ds hds
  have hres' : ∀ (b : Nat) (sp : Nat → Bool) (hd : Bool), DataW.TrodAll enc C.prog W' b sp hd fn.resultTypes.toList ((Value.bool true).resultList fn.resultTypes.size) [.lit (.bool true)] [] := fun b sp hd => by
    rw [hres]; exact trodAll_mk1 (shut_bool htb true)
  have hargs : ∀ sp : Nat → Bool, (∀ x ∈ p, sp x.block = true) → DataW.TrodAll enc C.prog W' 0 sp true fn.params.toList args.toList ds p := fun sp hs => args_stay hl hbel hread hA hlt hs
  have hok : ∀ (j : Nat) (t : TypeId) (r : Value), fn.resultTypes[j]? = some t → ((Value.bool true).resultList fn.resultTypes.size)[j]? = some r → Value.okWide C.prog W' .any 0 t r := ok_one hres rfl (okWide_bool_mk htb true)
  refine ⟨ds, [], p, [], p, [], hW', ?_, ?_, ?_, World.keptBut_mono (fun x hx => ⟨hx, .inr (.inl hx)⟩) (hbel.frame (· ∈ p)), fun _ => ⟨hok, .lit (.bool true) :: ds, [], p, ⟨p, [], ?_, ?_, by simp, ?_, fun hc => Bool.noConfusion hc⟩, fun x hx _ => hx⟩⟩
  · rw [List.append_nil, hsp]; exact hres' _ _ _
  · rw [List.append_nil, hsp]; exact hargs _ fun x hx => decide_eq_true (hlt x hx)
  · rw [List.append_nil, hsp, hvars]; rfl
  · have := trodAll_append (hargs (fun _ => true) fun _ _ => rfl) (hres' 0 (fun _ => true) true)
    simpa using this
  · rw [hvars]; rfl
  · intro b off hp
    rw [hbel.frozen (hlt _ hp)]
    exact hfz b off hp
end Go.AI


namespace Go.AI
open Go
/-- What is to be shown of a piece of code, as a thing that nothing unfolds. -/
inductive SPB (Γ : Base) (s : St) (c : Code) (K : Exit → St → Prop) : Prop
  | mk (h : SP Γ s c K)
section
variable {Γ : Base} {T : Tab} {s : St} {K : Exit → St → Prop}
theorem SPB.out {c : Code} (h : SPB Γ s c K) : SP Γ s c K := by cases h; assumption
theorem SPB.of_awp (hΓ : Γ.OK) (hT : T.OK Γ.P) (keep : List Nat) {c : Code} (ho : okCode Γ.nt c = true) (h : awp Γ T keep c s K) : SPB Γ s c K := ⟨awp_sound hΓ hT c s K ho h⟩
theorem SPB.skip (hΓ : Γ.OK) (hT : T.OK Γ.P) (h : K .normal s) : SPB Γ s .skip K := SPB.of_awp hΓ hT [] rfl h
theorem SPB.label (hΓ : Γ.OK) (hT : T.OK Γ.P) {l : Nat} (h : K .normal s) : SPB Γ s (.label l) K := SPB.of_awp hΓ hT [] rfl h
theorem SPB.ret (hΓ : Γ.OK) (hT : T.OK Γ.P) (h : K .ret s) : SPB Γ s .ret K := SPB.of_awp hΓ hT [] rfl h
theorem SPB.exit (hΓ : Γ.OK) (hT : T.OK Γ.P) {j : Nat} (h : K (.exit j) s) : SPB Γ s (.exit j) K := SPB.of_awp hΓ hT [] rfl h
theorem SPB.seq {a b : Code} (h : SPB Γ s a fun e s' => match e with | .normal => SPB Γ s' b K | e => K e s') : SPB Γ s (.seq a b) K :=
  ⟨SP.seq h.out (fun _ h => h.out) (fun e s' he h => by cases e <;> first | exact absurd rfl he | exact h)⟩
theorem SPB.block {id : Nat} {c : Code} (h : SPB Γ s c fun e s' => match e with
    | .exit j => bif Nat.beq j id then K .normal s' else K (.exit j) s'
    | e => K e s') : SPB Γ s (.block id c) K := by
  refine ⟨fun a w hI => wpIn_block (wpIn_mono (h.out a w hI) fun e a' w' hq => ?_)⟩
  obtain ⟨hN, hp, s', hI', hK⟩ := hq
  cases e with
  | exit j =>
    simp only at hK
    unfold Exit.inBlock
    cases hb : Nat.beq j id with
    | true => rw [hb] at hK; simp only [Nat.eq_of_beq_eq_true hb, if_true]; exact ⟨hN, hp, s', hI', hK⟩
    | false => rw [hb] at hK; simp only [Nat.ne_of_beq_eq_false hb, if_false]; exact ⟨hN, hp, s', hI', hK⟩
  | normal => exact ⟨hN, hp, s', hI', hK⟩
  | goto l => exact ⟨hN, hp, s', hI', hK⟩
  | ret => exact ⟨hN, hp, s', hI', hK⟩
  | panic c => exact ⟨hN, hp, s', hI', hK⟩
  | outgrown => exact ⟨hN, hp, s', hI', hK⟩
theorem SPB.cond {c : Operand} {x y : Code} {t : Bool} (ht : ev s c = .bool t) (h : (t = true → SPB Γ s x K) ∧ (t = false → SPB Γ s y K)) : SPB Γ s (.cond c x y) K := by
  refine ⟨fun a w hI => ?_⟩
  obtain ⟨cx, hW, htm⟩ := hI.ex
  have he : RC cx (.bool t) (a.eval c) := by
    have := ev_rel htm c
    rwa [ht] at this
  exact wpIn_cond_split he.bool (fun g => wpIn_mono ((h.1 g).out a w hI) fun _ _ _ ⟨h1, h2, h3⟩ => ⟨h1, h2.mono fun d hd => List.mem_append_left _ hd, h3⟩)
    (fun g => wpIn_mono ((h.2 g).out a w hI) fun _ _ _ ⟨h1, h2, h3⟩ => ⟨h1, h2.mono fun d hd => List.mem_append_right _ hd, h3⟩)
theorem SPB.condT {c : Operand} {x y : Code} (ht : ev s c = .bool true) (h : SPB Γ s x K) : SPB Γ s (.cond c x y) K := SPB.cond ht ⟨fun _ => h, fun h => Bool.noConfusion h⟩
theorem SPB.condF {c : Operand} {x y : Code} (ht : ev s c = .bool false) (h : SPB Γ s y K) : SPB Γ s (.cond c x y) K := SPB.cond ht ⟨fun h => Bool.noConfusion h, fun _ => h⟩
theorem SPB.draw (hΓ : Γ.OK) (hT : T.OK Γ.P) (keep : List Nat) {id : Nat} {ops : Array Oper} (ho : okCode Γ.nt (.region id ops true) = true) (h : awpDraw T (ACalls Γ.P) keep ops.toList s (K .normal)) : SPB Γ s (.region id ops true) K :=
  SPB.of_awp hΓ hT keep ho h
theorem SPB.reg (hΓ : Γ.OK) (hT : T.OK Γ.P) (keep : List Nat) {id : Nat} {ops : Array Oper} (ho : okCode Γ.nt (.region id ops false) = true)
    (h : awpOps T (ACalls Γ.P) ops.toList (guardsOf ops.toList ops.toList) ops.toList s fun s' => keepK keep s' (K .normal)) : SPB Γ s (.region id ops false) K := SPB.of_awp hΓ hT keep ho h
theorem SPB.loop {c : Code} {X : Type} (sh : X → St) (I : X → Prop) (μ : X → Nat) (x0 : X) (h0 : I x0) (hle : s.le (sh x0))
    (body : ∀ x, I x → SPB Γ (sh x) c fun e s' => match e with | .normal => ∃ x', I x' ∧ μ x' < μ x ∧ s'.le (sh x') | e => K e s') : SPB Γ s (.loop c) K :=
  ⟨SP.loop sh I μ x0 h0 hle fun x hx => (body x hx).out⟩
/-- A state that is known worse will do. -/
theorem SPB.le {c : Code} {s' : St} (hle : s.le s') (h : SPB Γ s' c K) : SPB Γ s c K := ⟨fun a w hI => h.out a w (hI.less hle)⟩
theorem SPB.scopeEnds {c : Code} {rs : List ResultVar} {r : AV} (h : SPB Γ s c (Ends T rs r)) : SPB Γ s (.scope c) (Ends T rs r) := ⟨SP.scopeEnds h.out⟩
end
theorem ACalls.ofB {P : Program} {T : Tab} (hT : T.OK P) {f : FuncId} {fn : Func} {body : Code} {args : List AV} {r : AV} (hf : P.funcs[f]? = some fn) (hb : fn.body = some body)
    (hname : (fn.name == "runtime.NumGoroutine") = false) (hm : P.follows .mixedOrders = true) (hn : args.length ≤ fn.ntmps)
    (h : ∀ (F : Fence) (n : Nat) (w0 : World) (m0 : Mem), Base.OK ⟨P, F, n, w0, m0, fn.ntmps⟩ → F.round = none → 1 ≤ n → SPB ⟨P, F, n, w0, m0, fn.ntmps⟩ ⟨params 0 args, []⟩ body (Ends T fn.results.toList r)) : ACalls P f args r :=
  ACalls.ofSP hT hf hb hname hm hn fun F n w0 m0 hG hr h1 => (h F n w0 m0 hG hr h1).out
end Go.AI
namespace Go.AI
open Go
/-- An empty slice has no elements of any size. -/
theorem AV.weak.slnil {o : Own} {sz sz' : Nat} : (AV.sl o sz []).weak (.sl .no sz' []) := fun m v h => by
  cases h with
  | sl _ _ _ base len cap ho hf hl hc hsz hcell b off hb g hm hr =>
    exact .sl _ _ _ _ _ _ (by intro k hk; cases hk) (by intro hk; cases hk) hl hc (by simp) (by simp) b off hb g (by simp) (by simp)
end Go.AI
namespace Go.AI
open Go
section
variable {Γ : Base} {T : Tab} {s : St} {K : Exit → St → Prop}
/-- Ways that join: what is known behind a piece of code, in whatever way it was gone through. -/
theorem SPB.cut {c : Code} {X : Type} (sh : X → St) (P : X → Prop) (h : SPB Γ s c fun e s' => e = .normal ∧ ∃ x, P x ∧ s'.le (sh x)) (k : ∀ x, P x → K .normal (sh x)) : SPB Γ s c K := by
  refine ⟨fun a w hI => wpIn_mono (h.out a w hI) ?_⟩
  rintro e a' w' ⟨hN, hF, s', hI', rfl, x, hx, hle⟩
  exact ⟨hN, hF, sh x, hI'.less hle, k x hx⟩
/-- What is the frame's alone is written no more. -/
theorem SPB.frz {c : Code} (l : List Operand) (h : frzAll s l fun s' => SPB Γ s' c K) : SPB Γ s c K := by
  refine ⟨fun a w hI => ?_⟩
  obtain ⟨s', h1, h2⟩ := frzAll_spec _ _ h hI
  exact h1.out a w h2
end
end Go.AI
namespace Go.AI
open Go
section
variable {Γ : Base} {c : Ctx} {bx : List (Nat × List AV)} {w : World}
/-- A box's content is told in other words. -/
theorem WI.rebox (hW : WI Γ c bx w) {d : Nat} {cs cs' : List AV} (h : get bx d = some cs) (hne : cs ≠ []) (hl : cs'.length = cs.length) (hc : ∀ x ∈ cs', x.isCell = true)
    (hr : ∀ (vs : Array Value), (∀ (i : Nat) (x : AV) (v : Value), cs[i]? = some x → vs[i]? = some v → RC1 c x v) → ∀ (i : Nat) (x : AV) (v : Value), cs'[i]? = some x → vs[i]? = some v → RC1 c x v) : WI Γ c ((d, cs') :: bx) w := by
  obtain ⟨h1, h2, h3, vs, T, h4, h5, h6⟩ := hW.box d cs h hne
  refine ⟨hW.ext, hW.sub, hW.le0, hW.new, fun d' ds hd' hne' => ?_, fun d1 d2 c1 c2 g1 g2 n1 n2 hρ => ?_, fun k => ?_, fun k b o hx => ?_⟩
  · rw [get_cons] at hd'
    split at hd'
    · rename_i hdd
      subst hdd
      cases hd'
      exact ⟨h1, h2, hc, vs, T, h4, hl.trans h5, hr vs h6⟩
    · exact hW.box d' ds hd' hne'
  · rw [get_cons] at g1 g2
    split at g1
    · rename_i e1
      split at g2
      · rename_i e2; rw [e1, e2]
      · rename_i e2
        rw [e1] at hρ ⊢
        exact hW.inj d d2 cs c2 h g2 hne n2 hρ
    · rename_i e1
      split at g2
      · rename_i e2
        rw [e2] at hρ ⊢
        exact hW.inj d1 d c1 cs g1 h n1 hne hρ
      · exact hW.inj d1 d2 c1 c2 g1 g2 n1 n2 hρ
  · have ho := hW.own k
    refine ⟨ho.blk, ho.shape, fun g d' ds hg hd' hne' => ?_, ho.apart⟩
    rw [get_cons] at hd'
    split at hd'
    · rename_i e; rw [e]; exact ho.box g d cs hg h hne
    · exact ho.box g d' ds hg hd' hne'
  · have hq := hW.xo k b o hx
    refine ⟨hq.new, hq.obj, hq.kept, hq.mem, hq.map, fun d' ds hd' hne' => ?_, hq.own, hq.inj⟩
    rw [get_cons] at hd'
    split at hd'
    · rename_i e; rw [e]; exact hq.box d cs h hne
    · exact hq.box d' ds hd' hne'
end
section
variable {Γ : Base} {T : Tab} {s : St} {K : Exit → St → Prop}
/-- A map of the frame's own, which lies in a box, is written no more. -/
theorem SPB.frzMap {c : Code} (k d : Nat) {b : Nat} {rows : List (List AV)} (h1 : get s.t (xk k) = some (.me .ents k b rows)) (h2 : get s.b d = some [.lit (.map (some b))]) (h : SPB Γ ⟨mapT (AV.unme k) s.t, (d, [.mapv rows]) :: s.b⟩ c K) : SPB Γ s c K := by
  refine ⟨fun a w hI => h.out a w ?_⟩
  obtain ⟨⟨cx, hW, ht⟩, hs, hd⟩ := hI
  have hx := (show RX cx .ents k b rows (a.tmps.getD (xk k) Go.undef) from ht _ _ h1)
  have hx2 := hx
  obtain ⟨es, clock, e1, _⟩ := hx2
  obtain ⟨W1, W2⟩ := hW.freezeMap e1
  refine ⟨⟨_, W1.rebox h2 (by simp) rfl (by simp [AV.isCell]) (fun vs hvs i x v q1 q2 => ?_), fun e z hz => ?_⟩, hs, hd⟩
  · cases i with
    | succ i => simp at q1
    | zero =>
      simp only [List.getElem?_cons_zero, Option.some.injEq] at q1
      subst q1
      have h3 := (show RD _ (.lit (.map (some b))) v from hvs 0 _ v rfl q2)
      cases h3
      exact hx.mapv W2.m fun es' clock' he => by
        rw [e1] at he
        cases he
        exact if_pos rfl
  · rw [get_mapT] at hz
    obtain ⟨z', hz', rfl⟩ := Option.map_eq_some_iff.1 hz
    exact (ht e z' hz').leX W2
theorem NCalls.ofB {P : Program} {T : Tab} (hT : T.OK P) {f : FuncId} {fn : Func} {body : Code} {args : List AV} {R : AV → Prop} (hf : P.funcs[f]? = some fn) (hb : fn.body = some body)
    (hname : (fn.name == "runtime.NumGoroutine") = false) (hm : P.follows .mixedOrders = true) (hn : args.length ≤ fn.ntmps)
    (h : ∀ (F : Fence) (n : Nat) (w0 : World) (m0 : Mem), Base.OK ⟨P, F, n, w0, m0, fn.ntmps⟩ → F.round = none → 1 ≤ n → SPB ⟨P, F, n, w0, m0, fn.ntmps⟩ ⟨params 0 args, []⟩ body (fun e s => ∃ r, R r ∧ Ends T fn.results.toList r e s)) : NCalls P f args R :=
  NCalls.ofSP hT hf hb hname hm hn fun F n w0 m0 hG hr h1 => (h F n w0 m0 hG hr h1).out
end
end Go.AI


/-! A range over a map that is written no more: its steps. -/
namespace Go.AI
open Go
open Go.RowKit (Below)
def World.dr (w : World) (d : Nat) : World := { w with drawn := w.drawn + d }
theorem ops_cons {F : Fence} {n : Nat} {P : Program} {all : Array Oper} {Q : Exit → Act → World → Prop} {i : Nat} {l : List Nat} {a : Act} {w : World} {o : Oper} (h0 : all[i]? = some o) (hg : o.guard = none)
    (h : o.wpIn F n P a w (fun a w => wpOpsIn F n P all Q l a w) Q) : wpOpsIn F n P all Q (i :: l) a w := by
  simp only [wpOpsIn, h0, Region.wanted, hg, if_true]
  exact h
section
variable {P : Program} {W : World} {r b : Nat} {es : Array MapEntry} {clock : Nat} {seen : Array Nat}
theorem run_range_map {t : TypeId} {k e : TypeId} (ht : P.underlying t = some (.map k e)) (hb : W.heap[b]? = some (.map es clock)) :
    (Instr.range t (.map (some b))).run P W = .ok (.pointer (some ⟨W.heap.size, 0, none⟩)) (W.alloc (.mapIter (some b) clock #[] clock)) := by
  simp only [Instr.range, Sem.run_bind, run_underlying ht, Result.andThen_ok, MapKept.run_getObj_map hb, Sem.run_pure, run_newObj]
  rfl
theorem run_getObj_iter {s : Nat} {q : Nat} (hr : W.heap[r]? = some (.mapIter (some b) s seen q)) : (getObj r).run P W = .ok (.mapIter (some b) s seen q) W := by
  simp [getObj, Sem.run, hr]
theorem run_setObj_iter {s : Nat} {q : Nat} (hr : W.heap[r]? = some (.mapIter (some b) s seen q)) (o : Obj) : (setObj r o).run P W = .ok () (W.putObj r o) := by
  simp [setObj, Sem.run, hr, World.putObj]
theorem run_choose (n : Nat) (hn : 0 < n) : ∃ k d, k < n ∧ (choose (.mapNext n)).run P W = .ok k (World.dr W d) := by
  have hrun : (choose (.mapNext n)).run P W = if (Question.mapNext n).forced then .ok 0 W else .ok ((Question.mapNext n).cut (W.tape W.drawn (.mapNext n))) { W with drawn := W.drawn + 1 } := rfl
  rw [hrun]
  cases hf : (Question.mapNext n).forced with
  | true => exact ⟨0, 0, hn, rfl⟩
  | false => exact ⟨_, 1, Nat.mod_lt _ hn, rfl⟩
theorem run_next_map (T : TypeId) (hr : W.heap[r]? = some (.mapIter (some b) clock seen clock)) (hb : W.heap[b]? = some (.map es clock)) (hborn : ∀ e ∈ es.toList, e.born < clock) :
    (∃ d, (Instr.next (.pointer (some ⟨r, 0, none⟩)) false T).run P W = .ok (.tuple #[.bool false]) (World.dr W d) ∧ ∀ e ∈ es.toList, seen.contains e.born = true) ∨
    ∃ e d, e ∈ es.toList ∧ seen.contains e.born = false ∧ (Instr.next (.pointer (some ⟨r, 0, none⟩)) false T).run P W = .ok (.tuple #[.bool true, e.key, e.val]) ((World.dr W d).putObj r (.mapIter (some b) clock (seen.push e.born) clock)) := by
  have hall : (!seen.isEmpty && !es.isEmpty && es.all (·.born ≥ clock)) = false := by
    cases h1 : es.isEmpty with
    | true => simp
    | false =>
      have : es.all (·.born ≥ clock) = false := by
        rw [Bool.eq_false_iff]
        intro hc
        have hpos : 0 < es.size := by
          rw [Array.isEmpty_eq_false_iff] at h1
          exact Array.size_pos_iff.2 h1
        have h2 := Array.all_eq_true.1 hc 0 hpos
        have h3 := hborn es[0] (by simp)
        simp at h2; omega
      simp [this]
  obtain ⟨left, hleft⟩ : ∃ left, es.filter (fun e => !seen.contains e.born) = left := ⟨_, rfl⟩
  have hlm : ∀ e, e ∈ left.toList ↔ e ∈ es.toList ∧ seen.contains e.born = false := fun e => by
    rw [← hleft]; simp
  have hold : left.filter (fun e => decide (e.born < clock)) = left := by
    rw [Array.filter_eq_self]
    intro e he
    simpa using hborn e ((hlm e).1 (by simpa using he)).1
  have hnew : left.filter (fun e => decide (e.born ≥ clock)) = #[] := by
    rw [Array.filter_eq_empty_iff]
    intro e he
    have := hborn e ((hlm e).1 (by simpa using he)).1
    simp; omega
  have hcand : ∀ cand : Array (Option MapEntry), cand = (if left.isEmpty then #[none] else #[]) ++ (left ++ #[]).map some → 0 < cand.size ∧ ∀ k (hk : k < cand.size), (cand[k]? = some none ∧ left = #[]) ∨ ∃ e, cand[k]? = some (some e) ∧ e ∈ left.toList := by
    rintro cand rfl
    cases hl : left.isEmpty with
    | true =>
      have : left = #[] := Array.isEmpty_iff.1 hl
      subst this
      refine ⟨by simp, fun k hk => ?_⟩
      simp at hk
      subst hk
      exact .inl ⟨by simp, rfl⟩
    | false =>
      have hpos : 0 < left.size := by
        rw [Array.isEmpty_eq_false_iff] at hl
        exact Array.size_pos_iff.2 hl
      refine ⟨by simpa using hpos, fun k hk => .inr ?_⟩
      have hk' : k < left.size := by simpa using hk
      exact ⟨left[k], by simp [hk'], by simp⟩
  obtain ⟨hc0, hck⟩ := hcand _ rfl
  obtain ⟨k, d, hk, hrun⟩ := run_choose (P := P) (W := W) _ hc0
  have hr' : (World.dr W d).heap[r]? = some (.mapIter (some b) clock seen clock) := hr
  simp only [Instr.next, Sem.run_bind, run_getObj_iter hr, Result.andThen_ok, MapKept.run_getObj_map hb, hall, Bool.false_eq_true, if_false, Sem.run_pure, hleft, hold, hnew, hrun]
  rcases hck k hk with ⟨h1, h2⟩ | ⟨e, h1, h2⟩
  · refine .inl ⟨d, by simp only [h1, Sem.run_pure], fun e he => ?_⟩
    cases hc : seen.contains e.born with
    | true => rfl
    | false =>
      have := (hlm e).2 ⟨he, hc⟩
      rw [h2] at this
      simp at this
  · refine .inr ⟨e, d, ((hlm e).1 h2).1, ((hlm e).1 h2).2, ?_⟩
    simp only [h1, Sem.run_bind, run_setObj_iter hr', Result.andThen_ok, Sem.run_pure]
theorem run_entry_map {e : MapEntry} (hr : W.heap[r]? = some (.mapIter (some b) clock seen clock)) (hb : W.heap[b]? = some (.map es clock)) (hback : seen.back? = some e.born) (he : e ∈ es.toList) (hu : ∀ f ∈ es.toList, f.born = e.born → f = e) :
    (Instr.entry (.pointer (some ⟨r, 0, none⟩))).run P W = .ok (.tuple #[e.key, e.val]) W := by
  have hf : es.find? (fun f => f.born == e.born) = some e := by
    rw [← Array.find?_toList]
    cases hx : es.toList.find? (fun f => f.born == e.born) with
    | none =>
      have := List.find?_eq_none.1 hx e he
      simp at this
    | some f =>
      have h1 := List.mem_of_find?_eq_some hx
      have h2 := List.find?_some hx
      rw [hu f h1 (by simpa using h2)]
  simp only [Instr.entry, Sem.run_bind, run_getObj_iter hr, Result.andThen_ok, hback, MapKept.run_getObj_map hb, bne_self_eq_false, Bool.false_eq_true, if_false, Sem.run_pure, hf]
end
section
variable {ι α : Type} {Y : YB ι α} (hY : Y.OK)
/-- The iterator's frame in a world of which J holds. -/
theorem YI.rebase {k : ι} {s : St} {a : Act} {w : World} (hJ : Y.J k w) (hm : Y.m.sub w) (hsz : a.tmps.size = Y.nt) (htm : ∀ d x, get Y.tm d = some x → RD Y.m x (a.tmps.getD d Go.undef)) (hdf : a.defers = [])
    (hx : ∀ d x, get s.t d = some x → RD Y.m x (a.tmps.getD d Go.undef)) (hb : s.b = []) : YI Y (false, k) s a w := by
  obtain ⟨t, b⟩ := s
  simp only at hb
  subst hb
  exact ⟨⟨w, hJ, ⟨⟨_, WI.init (Γ := Y.base w) hm rfl, fun d x h => RC.of_RD (c := ⟨_, _, _, Y.m, _, _⟩) (hx d x h)⟩, hsz⟩, .refl _⟩, htm, hdf⟩
theorem YI.sub {g : Far ι} {s : St} {a : Act} {w : World} (h : YI Y g s a w) : Y.m.sub w := by
  obtain ⟨⟨W0, h1, h2, h3⟩, _⟩ := h
  obtain ⟨⟨c, hW, _⟩, _⟩ := h2
  exact ⟨fun b o v hb => hW.sub.cell b o v (hW.le0.cell b o v hb), fun b x hb => hW.sub.map b x (hW.le0.map b x hb)⟩
include hY in
theorem YI.now {k : ι} {s : St} {a : Act} {w : World} (h : YI Y (false, k) s a w) : Y.J k w := by
  obtain ⟨⟨W0, h1, h2, h3⟩, _⟩ := h
  obtain ⟨⟨c, hW, _⟩, _⟩ := h2
  exact hY.ab k W0 w h1 ⟨hW.ext, h3⟩
theorem YI.nt {g : Far ι} {s : St} {a : Act} {w : World} (h : YI Y g s a w) : a.tmps.size = Y.nt := by
  obtain ⟨⟨W0, h1, h2, h3⟩, _⟩ := h
  exact h2.size
end
end Go.AI


/-! slices.SortFunc over a row that a callee has just made. -/
namespace Go.AI
open Go
open Go.RowKit (Below)
theorem grown_of {w w' : World} (hb : Below w.heap.size w w') (hd : w.drawn ≤ w'.drawn) : ∃ q os, w' = Sort.grow (w.drewN q) os := by
  refine ⟨w'.drawn - w.drawn, w'.heap.extract w.heap.size w'.heap.size, ?_⟩
  have hh : w'.heap = w.heap ++ w'.heap.extract w.heap.size w'.heap.size := by
    apply Array.ext_getElem?
    intro i
    by_cases hi : i < w.heap.size
    · rw [Array.getElem?_append_left hi, hb.block i hi]
    · rw [Array.getElem?_append_right (by omega), Array.getElem?_extract]
      by_cases hi2 : i < w'.heap.size
      · rw [if_pos (by omega), show w.heap.size + (i - w.heap.size) = i by omega]
      · rw [if_neg (by omega), Array.getElem?_eq_none (by omega)]
  have h1 := hb.os
  have h2 := hb.tape
  have h3 := hb.output
  obtain ⟨h, t, d, o, u⟩ := w
  obtain ⟨h', t', d', o', u'⟩ := w'
  simp only [Sort.grow, World.drewN] at *
  rw [h1, h2, h3]
  congr 1
  omega
theorem RD.ints (m : Mem) (k : List Int) : RD m (Go.AI.keyA k) (keyV k) := by
  unfold Go.AI.keyA keyV
  refine .agg _ _ (by simp) (fun x hx => ?_) (fun i x u h1 h2 => ?_)
  · obtain ⟨n, _, rfl⟩ := List.mem_map.1 hx; rfl
  · simp only [List.getElem?_map, Option.map_eq_some_iff, List.getElem?_toArray] at h1 h2
    obtain ⟨n, hn', rfl⟩ := h1
    obtain ⟨n', hn'', rfl⟩ := h2
    rw [hn'] at hn''; cases hn''
    exact .int _ _
def noMem : Mem := ⟨fun _ _ => none, fun _ => none⟩
theorem noMem_sub (w : World) : noMem.sub w := ⟨fun _ _ _ h => (by cases h), fun _ _ h => (by cases h)⟩
section
variable {P : Program} {α : Type} [Inhabited α] (encI : α → List Int) (k : Nat) (cf : α → α → Int)
def encR (x : α) : List Value := (encI x).map (Value.int .i64)
/-- What a comparing function's contract gives to the sort's. -/
theorem cmpLays_of {g : FuncId} (h : ∀ x y, ACalls P g [keyA (encI x), keyA (encI y)] (.int .i64 (cf x y))) (blk off size : Nat) (w : World) : Proofs.CmpLays P g #[] (encR encI) k cf blk off size w := by
  intro m os dk hdk x y
  have hc := (h x y).runs noMem (Proofs.sortWorldK (encR encI) k w blk off m dk os) [keyV (encI x), keyV (encI y)] (noMem_sub _) rfl (fun i a v h1 h2 => by
    match i, h1, h2 with
    | 0, h1, h2 => cases h1; cases h2; exact RD.ints _ _
    | 1, h1, h2 => cases h1; cases h2; exact RD.ints _ _)
  refine Calls.mono hc ?_
  rintro e w' ⟨v, m', rfl, h1, _, _, hb, _, hd⟩
  exact ⟨by rw [h1.int_eq], grown_of hb hd.drawn⟩

theorem flat_get {l : List α} {i j : Nat} {x : α} (hx : l[i]? = some x) (hj : j < k) : (Sort.flatK (encR encI) k l.toArray)[i * k + j]! = (encR encI x)[j]! ∧ i * k + j < (Sort.flatK (encR encI) k l.toArray).size := by
  have hi : i < l.length := (List.getElem?_eq_some_iff.1 hx).1
  have hlt : i * k + j < l.toArray.size * k := by
    have : (i + 1) * k ≤ l.length * k := Nat.mul_le_mul_right _ hi
    rw [Nat.add_mul, Nat.one_mul] at this
    simpa using (by omega : i * k + j < l.length * k)
  have hg := Sort.get_flatK (encR encI) k l.toArray (i * k + j) hlt
  have h0 : 0 < k := by omega
  have e1 : (i * k + j) / k = i := by rw [Nat.mul_comm, Nat.mul_add_div h0, Nat.div_eq_of_lt hj, Nat.add_zero]
  have e2 : (i * k + j) % k = j := by rw [Nat.mul_comm, Nat.mul_add_mod, Nat.mod_eq_of_lt hj]
  rw [e1, e2] at hg
  have : l.toArray[i]! = x := by
    rw [getElem!_pos l.toArray i (by simpa using hi)]
    simpa using (List.getElem?_eq_some_iff.1 hx).2
  rw [this] at hg
  exact ⟨hg, by rw [Sort.size_flatK]; exact hlt⟩

/-- What a sort leaves. -/
structure Sorted (lt : α → α → Bool) (l l' : List α) (blk off : Nat) (w w2 : World) : Prop where
  perm : l'.Perm l
  sorted : l'.Pairwise fun x y => lt y x = false
  cell : ∀ (i : Nat) (x : α) (j : Nat), l'[i]? = some x → j < k → w2.cell? ⟨blk, off + (i * k + j), none⟩ = some ((encR encI x)[j]!)
  other : ∀ b, b ≠ blk → b < w.heap.size → w2.heap[b]? = w.heap[b]?
  soft : softB w2 blk
  os : w2.os = w.os
  tape : w2.tape = w.tape
  output : w2.output = w.output
  size : w.heap.size ≤ w2.heap.size
  more : More w w2
theorem heap_sortWorldK (w : World) (blk off m : Nat) (dk : Array α) (os : Array Obj) (b : Nat) (hb : b < w.heap.size) : (Proofs.sortWorldK (encR encI) k w blk off m dk os).heap[b]? = if blk = b then (w.heap[b]?).map (Sort.onCells (Sort.putCells id off (Sort.flatK (encR encI) k dk))) else w.heap[b]? := by
  unfold Proofs.sortWorldK Sort.grow Sort.putRowK Sort.putRow Sort.mapBlock
  simp only
  rw [Array.getElem?_append_left (by simpa [Sort.ahead] using hb), Array.getElem?_modify]
  rfl

set_option maxHeartbeats 1000000 in
/-- A ROW IS SORTED. -/
theorem sort_row {ρ : Shelf.Ren} (L : Proofs.SlLaysF0.n6 P ρ) (hk : ∀ x, (encI x).length = k) (aE : ∀ w, (isAgg (ρ.t 24)).run P w = .ok true w) (zE : ∀ w, (Go.sizeOf (ρ.t 24)).run P w = .ok k w) (hO : Sort.SWO (Proofs.ltOf cf)) {g : FuncId}
    (hcmp : ∀ x y, ACalls P g [keyA (encI x), keyA (encI y)] (.int .i64 (cf x y))) (eg : ∀ args w, (callFunc g args).run P w = .ok (.enter g args) w) (l : List α) (blk off cap : Nat) (w : World)
    (hcell : ∀ (i : Nat) (x : α) (j : Nat), l[i]? = some x → j < k → w.cell? ⟨blk, off + (i * k + j), none⟩ = some ((encR encI x)[j]!)) (hs : softB w blk) (hsz : l.length < 4611686018427387904) :
    Calls P (ρ.f 6) #[.slice (some ⟨blk, off, none⟩) l.length cap, .func (.func g) #[] #[]] w fun e w2 => e = .returned (.tuple #[]) ∧ ∃ l', Sorted encI k (Proofs.ltOf cf) l l' blk off w w2 := by
  obtain ⟨cs, U, hblk⟩ := hs
  have hlt := (Array.getElem?_eq_some_iff.1 hblk).1
  have hfz : ∀ o, w.frozen? ⟨blk, o, none⟩ = false := fun o => by simp [World.frozen?, hblk]
  have hH : Sort.HoldsK (encR encI) k w blk off l.toArray := by
    intro t ht
    refine ⟨?_, hfz _⟩
    rw [Sort.size_flatK] at ht
    have h0 : 0 < k := Nat.pos_of_ne_zero fun h => by subst h; simp at ht
    have hti : t / k < l.length := by
      have : t < l.length * k := by simpa using ht
      exact Nat.div_lt_of_lt_mul (by rwa [Nat.mul_comm])
    have htj : t % k < k := Nat.mod_lt _ h0
    have e : t / k * k + t % k = t := by rw [Nat.mul_comm]; exact Nat.div_add_mod t k
    have h1 := hcell (t / k) l[t / k] (t % k) (List.getElem?_eq_getElem hti) htj
    have h2 := (flat_get encI k (l := l) (i := t / k) (j := t % k) (List.getElem?_eq_getElem hti) htj).1
    rw [e] at h1 h2
    rw [h1, id, h2]
  have hc := Proofs.AnyQ.slices_SortFunc L k aE zE (encR encI) (fun x => by simp [encR, hk]) (fun x v hv => by
    obtain ⟨n, _, rfl⟩ := List.mem_map.1 hv
    rfl) cf hO g #[] blk off cap l.toArray w eg (cmpLays_of encI k cf hcmp blk off _ w) hH hlt (by simpa using hsz)
  refine Calls.mono (by simpa using hc) ?_
  rintro e w2 ⟨rfl, d', hp, hsd, n, os, rfl⟩
  refine ⟨rfl, d'.toList, ?_⟩
  have hds : d'.size = l.length := by have := hp.1; simpa using this
  have hH2 := Proofs.holdsK_sortWorldK_c (encR encI) k w blk off l.toArray d' n os hH hlt (by simpa using hds)
  have hsize := Proofs.size_sortWorldK_c (encR encI) k w blk off n d' os
  refine ⟨?_, ?_, fun i x j hx hj => ?_, fun b hb hbl => ?_, ?_, rfl, rfl, rfl, hsize, ⟨by show w.drawn ≤ w.drawn + n; omega⟩⟩
  · have := hp.2.2
    have h2 : (d'.extract 0 l.length).toList = d'.toList := by simp [List.take_of_length_le, hds]
    rw [h2] at this
    simpa using this
  · rw [List.pairwise_iff_getElem]
    intro i j hi hj hij
    have := hsd i j (Nat.zero_le _) hij (by simpa [hds] using hj)
    have h1 : d'[i]! = d'.toList[i] := by rw [getElem!_pos d' i (by simpa using hi)]; simp
    have h2 : d'[j]! = d'.toList[j] := by rw [getElem!_pos d' j (by simpa using hj)]; simp
    rw [h1, h2] at this
    exact this
  · have h2 := flat_get encI k (l := d'.toList) hx hj
    simp only [Array.toArray_toList] at h2
    have := (hH2 _ h2.2).1
    rw [this, id, h2.1]
  · rw [heap_sortWorldK _ _ _ _ _ _ _ _ _ hbl, if_neg (Ne.symm hb)]
  · refine ⟨Sort.putCells id off (Sort.flatK (encR encI) k d') cs, U, ?_⟩
    rw [heap_sortWorldK encI k w blk off n d' os blk hlt, if_pos rfl, hblk]
    rfl
end
end Go.AI


