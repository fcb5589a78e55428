/- Contracts of the functions, part 1: called with arguments that read so, each hands back what is typed. The conditions are those typed. -/
import Derived.Test.YtjeopncbnlfplaaAiD
import Derived.Test.YtjeopncbnlfplaaChecked
import Derived.KernelRfl
set_option linter.unusedSectionVars false
set_option linter.unusedVariables false
set_option linter.unusedSimpArgs false
namespace Go.Proofs
open Go Go.AI
def Try.TT : Tab := [
  (3, ⟨1, 8, .int .i64 0, [], 0, 0, 4, .i64, false⟩),
  (33, ⟨2, 16, .agg [.int .i64 0, .int .i64 0], [(0, 3), (1, 3)], 0, 0, 1, .i64, true⟩),
  (38, ⟨3, 24, .agg [.int .i64 0, .int .i64 0, .int .i64 0], [(0, 33), (2, 3)], 0, 0, 1, .i64, false⟩),
  (28, ⟨7, 56, .agg [.int .i64 0, .int .i64 0, .int .i64 0, .int .i64 0, .int .i64 0, .int .i64 0, .int .i64 0], [(0, 3), (1, 3), (2, 3), (3, 3), (4, 3), (5, 3), (6, 3)], 0, 0, 1, .i64, true⟩),
  (4, ⟨1, 1, .bool false, [], 0, 0, 5, .i64, false⟩),
  (0, ⟨1, 0, .junk, [], 0, 0, 0, .i64, false⟩),
  (30, ⟨21, 168, .agg [.int .i64 0, .int .i64 0, .int .i64 0, .int .i64 0, .int .i64 0, .int .i64 0, .int .i64 0, .int .i64 0, .int .i64 0, .int .i64 0, .int .i64 0, .int .i64 0, .int .i64 0, .int .i64 0, .int .i64 0, .int .i64 0, .int .i64 0, .int .i64 0, .int .i64 0, .int .i64 0, .int .i64 0], [(0, 3), (1, 3), (2, 28), (9, 3), (10, 3), (11, 3), (12, 3), (13, 3), (14, 3), (15, 3), (16, 3), (17, 3), (18, 3), (19, 3), (20, 3)], 0, 0, 1, .i64, false⟩),
  (31, ⟨1, 24, .sl .full 0 [], [], 0, 38, 3, .i64, false⟩),
  (43, ⟨1, 8, .int .i64 0, [], 0, 0, 4, .i64, false⟩),
  (84, ⟨3, 24, .agg [.int .i64 0, .int .i64 0, .int .i64 0], [], 3, 3, 2, .i64, false⟩),
  (48, ⟨1, 24, .sl .full 0 [], [], 0, 3, 3, .i64, false⟩),
  (23, ⟨4, 32, .agg [.int .i64 0, .int .i64 0, .int .i64 0, .int .i64 0], [], 4, 3, 2, .i64, false⟩),
  (22, ⟨7, 56, .agg [.int .i64 0, .int .i64 0, .int .i64 0, .int .i64 0, .int .i64 0, .int .i64 0, .int .i64 0], [], 7, 3, 2, .i64, false⟩),
  (24, ⟨1, 24, .sl .full 0 [], [], 0, 84, 3, .i64, false⟩),
  (88, ⟨3, 24, .agg [.int .i64 0, .int .i64 0, .int .i64 0], [(0, 3), (1, 3), (2, 3)], 0, 0, 1, .i64, true⟩),
  (51, ⟨1, 0, .junk, [], 0, 0, 0, .i64, false⟩),
  (26, ⟨13, 120, .agg [.int .i64 0, .int .i64 0, .int .i64 0, .int .i64 0, .int .i64 0, .int .i64 0, .int .i64 0, .int .i64 0, .int .i64 0, .int .i64 0, .int .i64 0, .int .i64 0, .sl .full 0 []], [(0, 22), (7, 23), (11, 3), (12, 24)], 0, 0, 1, .i64, false⟩),
  (80, ⟨1, 8, .lit .nilFunc, [], 0, 0, 8, .i64, false⟩),
  (49, ⟨1, 0, .junk, [], 0, 0, 0, .i64, false⟩),
  (44, ⟨1, 0, .junk, [], 0, 0, 0, .i64, false⟩),
  (56, ⟨2, 16, .agg [.int .i64 0, .int .i64 0], [], 2, 3, 2, .i64, false⟩),
  (92, ⟨1, 24, .sl .full 0 [], [], 0, 88, 3, .i64, false⟩),
  (35, ⟨1, 0, .junk, [], 0, 0, 0, .i64, false⟩),
  (54, ⟨1, 0, .junk, [], 0, 0, 0, .i64, false⟩),
  (85, ⟨3, 24, .agg [.lit .nilFunc, .lit .nilFunc, .lit .nilFunc], [], 3, 80, 2, .i64, false⟩),
  (76, ⟨1, 8, .lit .nilFunc, [], 0, 0, 8, .i64, false⟩),
  (47, ⟨1, 24, .sl .full 0 [], [], 0, 33, 3, .i64, false⟩),
  (57, ⟨1, 24, .sl .full 0 [], [], 0, 56, 3, .i64, false⟩),
  (94, ⟨1, 8, .lit .nilFunc, [], 0, 0, 8, .i64, false⟩),
  (40, ⟨1, 24, .sl .full 0 [], [], 0, 30, 3, .i64, false⟩),
  (41, ⟨1, 24, .sl .full 0 [], [], 0, 31, 3, .i64, false⟩),
  (75, ⟨1, 8, .lit .nilFunc, [], 0, 0, 8, .i64, false⟩),
  (64, ⟨1, 0, .junk, [], 0, 0, 0, .i64, false⟩),
  (20, ⟨1, 16, .lit .nilIface, [], 0, 0, 0, .i64, false⟩),
  (90, ⟨1, 8, .lit .nilFunc, [], 0, 0, 8, .i64, false⟩)]
def Try.keep3 : List Nat := [0, 1, 2, 3, 4, 5, 6, 7, 8, 11, 14, 15, 16, 17, 18, 19, 20, 21, 22, 23, 24, 25, 26, 27, 28, 29, 30, 31, 33, 34, 35, 36, 37, 38, 39, 40, 41, 42, 43, 44, 45, 46, 47, 49, 51, 73, 106, 137, 160, 194, 216, 220, 221, 222, 223, 272, 325, 336, 337, 338, 339, 371]
def Try.keep4 : List Nat := [0, 1, 2, 4, 5, 6, 7, 8, 9, 10, 11, 12, 13, 14, 15, 16, 17, 18, 20, 74, 78, 91, 97, 105, 118]
def Try.keep5 : List Nat := [0, 1, 2, 3, 6, 7, 8, 9, 10, 11, 12, 13, 14, 15, 16, 17, 19, 104]
def Try.keep6 : List Nat := [0, 1, 2, 3, 4, 6, 7, 10, 11, 12, 13, 14, 15, 17, 27, 43, 116, 118, 137]
def Try.keep7 : List Nat := [0, 1, 2, 3, 4, 8, 9, 10, 11, 12, 13, 14, 17, 18, 21, 22, 25, 26, 27, 28, 29, 30, 31, 32, 33, 34, 35, 37, 47, 55, 164, 168, 179]
def Try.keep8 : List Nat := [0, 1, 2, 3, 4, 8, 9, 10, 11, 12, 13, 14, 15, 16, 18, 19, 20, 21, 24, 25, 26, 27, 29, 76, 89, 90, 91, 92, 104, 115, 132, 151, 175]
def Try.keep9 : List Nat := [0, 1, 2, 3, 4, 8, 9, 10, 11, 12, 13, 14, 15, 18, 19, 22, 23, 24, 25, 26, 27, 28, 29, 30, 31, 32, 33, 34, 35, 36, 37, 38, 40]
def Try.keep10 : List Nat := [0, 1, 2, 3, 6, 7, 8, 9, 10, 11, 12, 13, 14, 15, 16, 17, 18, 20, 114, 118, 135]
def Try.keep11 : List Nat := [0, 1, 2, 3, 4, 5, 6, 7, 8, 9, 10, 11, 12, 15, 16, 17, 18, 19, 20, 21, 22, 23, 25, 26, 123]
def Try.keep12 : List Nat := [0, 1, 2, 3, 4, 5, 6, 7, 8, 9, 32]
def Try.keep13 : List Nat := [0, 1, 4, 6]
def Try.keep14 : List Nat := [0, 1, 2, 4]
def Try.keep15 : List Nat := [0, 1, 2, 4, 5, 13, 17, 26]
def Try.keep16 : List Nat := [0, 1, 2, 4, 5, 6, 7, 8, 9, 13, 15, 16, 17, 19, 20, 21, 33]
def Try.keep17 : List Nat := [0, 1, 2, 4, 5, 6, 7, 8, 9, 13, 17, 22, 35]
def Try.keep18 : List Nat := [0, 1, 2, 3, 4, 5, 6, 12]
def Try.keep19 : List Nat := [0, 1, 2, 3, 4, 5, 6, 12]
def Try.keep20 : List Nat := [0, 1, 2, 3, 5, 6, 7, 16]
def Try.keep21 : List Nat := [0, 1, 2, 3, 5, 6, 7, 8, 9, 10, 19, 25]
def Try.keep22 : List Nat := [0, 1, 2, 3, 5, 6, 7, 8, 17, 25]
def Try.keep23 : List Nat := [0, 1, 2, 3, 5, 6, 7, 8, 9, 10, 19, 23, 32]
def Try.keep24 : List Nat := [0, 1, 4, 5, 10, 14, 25]
def Try.keep25 : List Nat := [0, 1, 2, 3, 5, 6, 7, 9, 18, 22, 24]
def Try.keep26 : List Nat := [0, 1, 2, 3, 5, 6, 7, 8, 9, 18, 31]
def Try.keep27 : List Nat := [0, 1, 2, 3, 5, 6, 7, 8, 9, 10, 11, 12, 13, 14, 15, 24, 31, 32, 33, 36, 52]
def Try.keep28 : List Nat := [0, 1, 2, 3, 5, 6, 7, 8, 9, 10, 11, 12, 13, 22, 31, 35, 56]
def Try.keep29 : List Nat := [0, 1, 2, 3, 4, 5, 7, 10, 11, 12, 13, 14, 42, 50, 62, 74]
def Try.keep30 : List Nat := [0, 1, 2, 3, 4, 5, 7, 10, 11, 12, 13, 14, 15, 16, 17, 46, 54, 67, 81, 99]
def Try.keep31 : List Nat := [0, 1, 2]
def Try.keep32 : List Nat := [0, 1, 2, 4, 5, 6, 7]
def Try.keep33 : List Nat := [0, 1, 2, 3, 6, 7, 8, 9, 10, 19, 50]
def Try.keep34 : List Nat := [0, 1, 2, 4, 5, 7, 9, 12, 13, 14, 15, 18, 19, 20, 25]
def Try.keep35 : List Nat := [0, 1, 2, 3, 4, 5]
def Try.keep36 : List Nat := [0, 1, 2, 3, 4, 5, 28]
def Try.keep37 : List Nat := [0, 1, 2, 3, 4]
def Try.keep38 : List Nat := [0, 1, 2, 3, 4, 5, 6, 13]
def Try.keep39 : List Nat := [0, 1, 2, 3, 4, 5, 6, 7]
def Try.keep40 : List Nat := [0, 1, 2, 3, 4, 5, 6, 7]
def Try.keep41 : List Nat := [0, 1, 2]
def Try.keep42 : List Nat := [0, 1, 2, 3, 5, 6, 7, 8, 10, 20, 22]
def Try.keep43 : List Nat := [0, 1, 2]
def Try.keep44 : List Nat := [0, 1, 4, 5, 6, 10, 30]
def Try.keep45 : List Nat := [0, 1, 4, 5, 7, 8, 9, 16]
def Try.keep46 : List Nat := [0, 1, 3]
def Try.keep47 : List Nat := [0, 1, 2, 3, 4, 5, 6]
def Try.keep48 : List Nat := [0, 1, 2, 6]
def Try.keep49 : List Nat := [0, 1, 4]
def Try.keep50 : List Nat := [0, 1, 2, 3, 4]
def Try.keep51 : List Nat := [0, 2, 3, 4, 7, 15]
def Try.keep52 : List Nat := [0, 2]
def Try.keep53 : List Nat := [0, 1, 2, 6]
def Try.keep54 : List Nat := [0, 1, 4, 6]
def Try.keep55 : List Nat := [0, 1, 2, 3]
def Try.keep56 : List Nat := [0, 1, 4, 6]
def Try.keep57 : List Nat := [0, 1, 2]
def Try.keep58 : List Nat := [0, 1, 2]
def Try.keep59 : List Nat := [0, 1, 2, 3]
def Try.keep60 : List Nat := [0, 2]
def Try.keep61 : List Nat := [0, 1, 2, 3, 4]
def Try.keep62 : List Nat := [0, 1, 2, 3, 22]
def Try.keep63 : List Nat := [0, 1, 2, 6]
def Try.keep64 : List Nat := [0, 1, 2, 3, 5, 6, 8, 14, 20, 21, 22, 23, 37, 47]
def Try.keep65 : List Nat := [0, 1, 4, 5, 7, 8, 9, 16]
def Try.keep66 : List Nat := [0, 1, 4, 6]
def Try.keep67 : List Nat := [0, 1, 4]
def Try.keep68 : List Nat := [0, 1, 2]
def Try.keep69 : List Nat := [0, 1, 2, 6]
def Try.keep70 : List Nat := [0, 1, 2, 6]
def Try.keep71 : List Nat := [0, 1, 2, 6]
def Try.keep72 : List Nat := [0, 1, 4, 5, 7, 8, 9, 16]
theorem Try.TT_ok : Tab.OK Try.TT Try.prog := (by kernel_rfl : Try.TT.map (fun p => TI.of Try.prog p.1) = Try.TT.map (fun p => some p.2))
theorem Try.mixed : Try.prog.follows .mixedOrders = true := by kernel_rfl
end Go.Proofs


namespace Go.Proofs
open Go Go.AI
set_option maxRecDepth 10000
def w64 (n : Int) : Int := IntKind.i64.wrap n
def spanS (a b : Int) : Bool := decide (0 ≤ a) && decide (a < b) && decide (b ≤ 1000000) && decide (w64 (b - a) ≤ 3000)
theorem Try.c41 (a b : Int) : ACalls Try.prog 41 [.agg [.int .i64 a, .int .i64 b]] (.bool (spanS a b)) := by
  refine ACalls.of Try.TT_ok Try.keep41 Try.func41 rfl (by kernel_rfl) Try.mixed (by kernel_rfl) (Nat.le_of_ble_eq_true rfl) ?_
  intro F n w0 m0 hG hro h1
  repeat' first
    | refine And.intro (fun h => Bool.noConfusion (h : false = true)) (fun _ => ?_)
    | refine And.intro (fun _ => ?_) (fun h => Bool.noConfusion (h : true = false))
    | refine And.intro (fun h => ?_) (fun h => ?_)
  all_goals refine Ends.mk (Or.inl rfl) (AV.weak.of_eq (congrArg AV.bool ?_))
  all_goals (simp_all [spanS, w64] <;> first | rfl | (intros; omega))
theorem Try.c48 (n a b : Int) : ACalls Try.prog 48 [.int .i64 n, .int .i64 a, .int .i64 b] (.bool (decide (a ≤ n) && decide (n ≤ b))) := by
  refine ACalls.of Try.TT_ok Try.keep48 Try.func48 rfl (by kernel_rfl) Try.mixed (by kernel_rfl) (Nat.le_of_ble_eq_true rfl) ?_
  intro F n w0 m0 hG hro h1
  repeat' first
    | refine And.intro (fun h => Bool.noConfusion (h : false = true)) (fun _ => ?_)
    | refine And.intro (fun _ => ?_) (fun h => Bool.noConfusion (h : true = false))
    | refine And.intro (fun h => ?_) (fun h => ?_)
  all_goals refine Ends.mk (Or.inl rfl) (AV.weak.of_eq (congrArg AV.bool ?_))
  all_goals simp_all <;> omega
def pickS (c n : Int) : Int := if c < 0 then (w64 (0 - w64 (c + 1))).tmod n else c.tmod n
theorem Try.c13 (c n : Int) (hn : n ≠ 0) : ACalls Try.prog 13 [.int .i64 c, .int .i64 n] (.int .i64 (pickS c n)) := by
  refine ACalls.of Try.TT_ok Try.keep13 Try.func13 rfl (by kernel_rfl) Try.mixed (by kernel_rfl) (Nat.le_of_ble_eq_true rfl) ?_
  intro F n w0 m0 hG hro h1
  repeat' first
    | refine And.intro (fun h => Bool.noConfusion (h : false = true)) (fun _ => ?_)
    | refine And.intro (fun _ => ?_) (fun h => Bool.noConfusion (h : true = false))
    | refine And.intro hn ?_
    | refine And.intro (fun h => ?_) (fun h => ?_)
  all_goals refine Ends.mk (Or.inl rfl) (AV.weak.of_eq (congrArg (AV.int .i64) ?_))
  all_goals simp_all [pickS, w64] <;> omega
end Go.Proofs


namespace Go.Proofs
open Go Go.AI
set_option maxRecDepth 10000
/-- A satellite's cells; an exposure; exposures. -/
def satA (s : Nat → Int) : List AV := [.int .i64 (s 0), .int .i64 (s 1), .int .i64 (s 2), .int .i64 (s 3), .int .i64 (s 4), .int .i64 (s 5), .int .i64 (s 6), .int .i64 (s 7), .int .i64 (s 8), .int .i64 (s 9), .int .i64 (s 10),
  .int .i64 (s 11), .int .i64 (s 12), .int .i64 (s 13), .int .i64 (s 14), .int .i64 (s 15), .int .i64 (s 16), .int .i64 (s 17), .int .i64 (s 18), .int .i64 (s 19), .int .i64 (s 20)]
structure Aim3 where
  a : Int
  b : Int
  k : Int
def aimA (x : Aim3) : List AV := [.int .i64 x.a, .int .i64 x.b, .int .i64 x.k]
def aimsA (l : List Aim3) : AV := .sl .no 3 (l.map aimA)
def spellA (a b : Int) : List AV := [.int .i64 a, .int .i64 b]
def gainsCap (s : Nat → Int) (l : List Aim3) (a b : Int) : List AV := [.ref (spellA a b), .ref (satA s), .ref [aimsA l]]
theorem Try.c47 (s : Nat → Int) (l : List Aim3) (a b : Int) : ACalls Try.prog 47 [.agg (satA s), aimsA l, .agg (spellA a b)] (.clo 64 (gainsCap s l a b)) := by
  refine ACalls.of Try.TT_ok Try.keep47 Try.func47 rfl (by kernel_rfl) Try.mixed (by kernel_rfl) (Nat.le_of_ble_eq_true rfl) ?_
  intro F n w0 m0 hG hro h1
  refine Ends.mk (Or.inl rfl) (AV.weak.of_eq rfl)
end Go.Proofs


namespace Go.Proofs
open Go Go.AI
set_option maxRecDepth 10000
def hit (t : Int) (x : Aim3) : Bool := decide (x.a ≤ t) && decide (t < x.b)
/-- By how much the heat changes in a minute. -/
def gainS (warm cool : Int) (t : Int) (l : List Aim3) : Int := l.foldl (fun g x => if hit t x then w64 (g + warm) else g) (w64 (0 - cool))
def gainsL (s : Nat → Int) (l : List Aim3) (a b : Int) : List (Int × Int) := (List.range (b - a).toNat).map fun (i : Nat) => (a + i, gainS (s 16) (s 17) (a + (i : Int)) l)
def pairV (p : Int × Int) : Array Value := #[.int .i64 p.1, .int .i64 p.2]
theorem w64_in {n : Int} (h1 : -9223372036854775808 ≤ n) (h2 : n ≤ 9223372036854775807) : w64 n = n := by unfold w64; rw [IntKind.wrap_i64]; omega
theorem gainS_snoc (w c t : Int) (l : List Aim3) (x : Aim3) : gainS w c t (l ++ [x]) = if hit t x then w64 (gainS w c t l + w) else gainS w c t l := by simp [gainS, List.foldl_append]
theorem Try.c64 (s : Nat → Int) (l : List Aim3) (a b : Int) (ha : 0 ≤ a) (hb : b ≤ 1000000) (hl : l.length ≤ 1000000) : ASeq Try.prog pairV 64 (gainsCap s l a b) (gainsL s l a b) := by
  refine ASeq.of Try.TT_ok Try.keep64 Try.func64 rfl (by kernel_rfl) Try.mixed (by kernel_rfl) (Nat.le_of_ble_eq_true rfl) rfl (fun l => by kernel_rfl) ?_
  intro F n m y J Jx hY
  refine YP.loop (X := Nat) (fun i => ((false, i), ⟨(5, .int .i64 (a + i)) :: params 0 (.lit (.func (.yield y) #[] #[]) :: gainsCap s l a b), []⟩)) (fun i => i ≤ (b - a).toNat) (fun i => (b - a).toNat - i) 0 (Nat.zero_le _) rfl
    (St.le.of ?_ ?_) (fun i hi => ?_)
  · refine And.intro (congrArg (fun z => some (AV.int .i64 z)) (show a = a + ((0 : Nat) : Int) by omega)) ?_
    repeat' (first | exact trivial | refine And.intro rfl ?_)
  · exact trivial
  · refine awpY_sound (keep := Try.keep64) hY Try.TT_ok _ _ _ _ (by kernel_rfl) (by kernel_rfl) ?_
    refine And.intro (fun h => ?_) (fun h => ?_)
    · refine YP.of_SP (by kernel_rfl) (fun W0 => SP.loop (X := Nat) (fun j => ⟨(22, .int .i64 j) :: (6, .int .i64 (gainS (s 16) (s 17) (a + i) (l.take j))) :: (20, aimsA l) :: (21, .int .i64 (l.map aimA).length) :: (5, .int .i64 (a + i)) :: params 0 (.lit (.func (.yield y) #[] #[]) :: gainsCap s l a b), []⟩)
        (fun j => j ≤ l.length) (fun j => l.length - j) 0 (Nat.zero_le _) (St.le.of ?_ ?_) (fun j hj => ?_))
      · repeat' (first | exact trivial | refine And.intro rfl ?_)
      · exact trivial
      · refine awp_sound (keep := Try.keep64) (hY.base W0) Try.TT_ok _ _ _ (by kernel_rfl) ?_
        refine And.intro (fun h => ?_) (fun h => ?_)
        · have hj2 : j < l.length := by have := of_decide_eq_true h; simp at this; omega
          have hx : (l.map aimA)[(j : Int).toNat]? = some (aimA l[j]) := by simp [List.getElem?_eq_getElem hj2]
          have htk : l.take (j + 1) = l.take j ++ [l[j]] := by rw [List.take_add_one, List.getElem?_eq_getElem hj2]; rfl
          refine And.intro (by omega) (Exists.intro (aimA l[j]) (And.intro hx ?_))
          repeat' (conv => whnf
                   first
                   | refine And.intro (fun h => Bool.noConfusion (h : false = true)) (fun _ => ?_)
                   | refine And.intro (fun _ => ?_) (fun h => Bool.noConfusion (h : true = false))
                   | refine And.intro (fun h => ?_) (fun h => ?_))
          all_goals refine Exists.intro (j + 1) (And.intro hj2 (And.intro (by omega) (St.le.of ?_ trivial)))
          all_goals refine And.intro (congrArg (fun z => some (AV.int .i64 z)) ((w64_in (by omega) (by omega)).trans (by omega))) ?_
          · refine And.intro (congrArg (fun z => some (AV.int .i64 z)) ?_) ?_
            · rw [htk, gainS_snoc]
              simp only [hit, *]
              rfl
            · repeat' (first | exact trivial | refine And.intro rfl ?_)
          · refine And.intro (congrArg (fun z => some (AV.int .i64 z)) ?_) ?_
            · rw [htk, gainS_snoc]
              simp only [hit, *]
              rfl
            · repeat' (first | exact trivial | refine And.intro rfl ?_)
          · refine And.intro (congrArg (fun z => some (AV.int .i64 z)) ?_) ?_
            · rw [htk, gainS_snoc]
              simp only [hit, *]
              rfl
            · repeat' (first | exact trivial | refine And.intro rfl ?_)
        · have e : l.take j = l := List.take_of_length_le (by have := of_decide_eq_false h; simp at this; omega)
          have hib : i < (b - a).toNat := by have := of_decide_eq_true (by assumption : decide (a + (i : Int) < b) = true); omega
          refine And.intro rfl (Exists.intro (a + (i : Int), gainS (s 16) (s 17) (a + i) (l.take j)) (And.intro ?_ (And.intro rfl (And.intro ?_ ?_))))
          · rw [e]; simp [gainsL, List.getElem?_map, List.getElem?_range hib]
          · refine And.intro (fun h => Bool.noConfusion (h : false = true)) (fun _ => ?_)
            refine Exists.intro (i + 1) (And.intro hib (And.intro (by omega) (And.intro rfl (St.le.of ?_ trivial))))
            refine And.intro (congrArg (fun z => some (AV.int .i64 z)) ((w64_in (by omega) (by omega)).trans (by omega))) ?_
            repeat' (first | exact trivial | refine And.intro rfl ?_)
          · refine And.intro (fun _ => ?_) (fun h => Bool.noConfusion (h : true = false))
            exact EndsY.mk (Or.inl rfl) (Or.inr rfl)
    · refine EndsY.mk (Or.inr rfl) (Or.inl ?_)
      simp [gainsL]
      have := of_decide_eq_false h
      omega
end Go.Proofs


namespace Go.Proofs
open Go Go.AI
set_option maxRecDepth 10000
/-- The heats of a row of gains: the last one; all. -/
def heatRun (pre : List (Int × Int)) : Int × List Int := pre.foldl (fun r p => (max 0 (w64 (r.1 + p.2)), r.2 ++ [max 0 (w64 (r.1 + p.2))])) (0, [])
def intsA (l : List Int) : AV := .sl .no 1 (l.map fun h => [.int .i64 h])
theorem heatRun_len (pre : List (Int × Int)) : (heatRun pre).2.length = pre.length := by
  suffices h : ∀ (r : Int × List Int), (pre.foldl (fun r p => (max 0 (w64 (r.1 + p.2)), r.2 ++ [max 0 (w64 (r.1 + p.2))])) r).2.length = r.2.length + pre.length by simpa [heatRun] using h (0, [])
  induction pre with
  | nil => intro r; simp
  | cons p t ih => intro r; simp [ih]; omega
theorem heatRun_snoc (pre : List (Int × Int)) (x : Int × Int) : heatRun (pre ++ [x]) = (max 0 (w64 ((heatRun pre).1 + x.2)), (heatRun pre).2 ++ [max 0 (w64 ((heatRun pre).1 + x.2))]) := by simp [heatRun, List.foldl_append]
def heatsB (pre : List (Int × Int)) : List (Nat × List AV) := [(8, [.int .i64 (heatRun pre).1]), (7, [.sl (.id 16) 1 ((heatRun pre).2.map fun h => [.int .i64 h])])]
theorem Try.c42 (s : Nat → Int) (l : List Aim3) (a b : Int) (ha : 0 ≤ a) (hab : a ≤ b) (hb : b ≤ 1000000) (hl : l.length ≤ 1000000) :
    ACalls Try.prog 42 [.agg (satA s), aimsA l, .agg (spellA a b)] (intsA (heatRun (gainsL s l a b)).2) := by
  refine ACalls.of Try.TT_ok Try.keep42 Try.func42 rfl (by kernel_rfl) Try.mixed (by kernel_rfl) (Nat.le_of_ble_eq_true rfl) ?_
  intro F n w0 m0 hG hro h1
  have hba : w64 (b - a) = b - a := w64_in (by omega) (by omega)
  have hba : IntKind.i64.wrap (b - a) = b - a := hba
  refine And.intro (by omega) ?_
  conv => whnf
  rw [hba]
  refine And.intro (by omega) (And.intro (show (b - a).toNat * 8 ≤ 70368744177664 by omega) (And.intro (by omega) ?_))
  refine Exists.intro _ (And.intro (Try.c47 s l a b) ?_)
  refine SP.range hG hro h1 (α := Int × Int) (fun p => [.int .i64 p.1, .int .i64 p.2]) pairV (f := 64) (cap := gainsCap s l a b) (items := gainsL s l a b) rfl (Try.c64 s l a b ha hb hl) (fun _ => rfl) (fun _ => rfl) ?_
    [(7, .loc 7 0), (8, .loc 8 0)] heatsB (St.le.of ?_ ?_) (by kernel_rfl) (by decide) ?_ ?_
  · intro m x i c v h1 h2
    match i, h1, h2 with
    | 0, h1, h2 => cases h1; cases h2; exact .int _ _
    | 1, h1, h2 => cases h1; cases h2; exact .int _ _
  · repeat' (first | exact trivial | refine And.intro rfl ?_)
  · repeat' (first | exact trivial | refine And.intro rfl ?_)
  · intro F' n' m' hG' pre x rest hit
    refine awp_sound (keep := Try.keep42) hG' Try.TT_ok _ _ _ (by kernel_rfl) ?_
    have hlen : (gainsL s l a b).length ≤ 1000000 := by simp [gainsL]; omega
    have hpre : pre.length < 1000000 := by rw [hit] at hlen; simp at hlen; omega
    have hr : ((heatRun pre).2.map fun h => [AV.int .i64 h]).length = pre.length := by rw [List.length_map, heatRun_len]
    refine And.intro rfl (And.intro (St.le.of ?_ ?_) (awp_sound (keep := Try.keep42) hG' Try.TT_ok _ _ _ (by kernel_rfl) ?_))
    · repeat' (first | exact trivial | refine And.intro rfl ?_)
    · repeat' (first | exact trivial | refine And.intro rfl ?_)
    · refine And.intro (show (_ + 1) * 8 ≤ 70368744177664 by rw [hr]; omega) (And.intro (show _ + 1 ≤ 4611686018427387904 by rw [hr]; omega) ?_)
      refine St.le.of ?_ ?_
      · repeat' (first | exact trivial | refine And.intro rfl ?_)
      · refine And.intro ?_ (And.intro ?_ trivial)
        · rw [heatRun_snoc]; rfl
        · rw [heatRun_snoc, List.map_append]; rfl
  · exact Ends.mk (Or.inl rfl) (AV.weak.of_eq rfl)
end Go.Proofs


namespace Go.Proofs
open Go Go.AI
set_option maxRecDepth 10000
theorem Try.c53 (n a b : Int) : ACalls Try.prog 53 [.int .i64 n, .int .i64 a, .int .i64 b] (.bool (decide (a ≤ n) && decide (n ≤ b))) := by
  refine ACalls.of Try.TT_ok Try.keep53 Try.func53 rfl (by kernel_rfl) Try.mixed (by kernel_rfl) (Nat.le_of_ble_eq_true rfl) ?_
  intro F n' w0 m0 hG hro h1
  repeat' (conv => whnf
           first
           | refine And.intro (fun h => Bool.noConfusion (h : false = true)) (fun _ => ?_)
           | refine And.intro (fun _ => ?_) (fun h => Bool.noConfusion (h : true = false))
           | refine And.intro (fun h => ?_) (fun h => ?_))
  all_goals refine Ends.mk (Or.inl rfl) (AV.weak.of_eq (congrArg AV.bool ?_))
  all_goals (simp_all <;> first | rfl | (intros; omega))
theorem Try.c63 (n a b : Int) : ACalls Try.prog 63 [.int .i64 n, .int .i64 a, .int .i64 b] (.bool (decide (a ≤ n) && decide (n ≤ b))) := by
  refine ACalls.of Try.TT_ok Try.keep63 Try.func63 rfl (by kernel_rfl) Try.mixed (by kernel_rfl) (Nat.le_of_ble_eq_true rfl) ?_
  intro F n' w0 m0 hG hro h1
  repeat' (conv => whnf
           first
           | refine And.intro (fun h => Bool.noConfusion (h : false = true)) (fun _ => ?_)
           | refine And.intro (fun _ => ?_) (fun h => Bool.noConfusion (h : true = false))
           | refine And.intro (fun h => ?_) (fun h => ?_))
  all_goals refine Ends.mk (Or.inl rfl) (AV.weak.of_eq (congrArg AV.bool ?_))
  all_goals (simp_all <;> first | rfl | (intros; omega))
theorem Try.c69 (n a b : Int) : ACalls Try.prog 69 [.int .i64 n, .int .i64 a, .int .i64 b] (.bool (decide (a ≤ n) && decide (n ≤ b))) := by
  refine ACalls.of Try.TT_ok Try.keep69 Try.func69 rfl (by kernel_rfl) Try.mixed (by kernel_rfl) (Nat.le_of_ble_eq_true rfl) ?_
  intro F n' w0 m0 hG hro h1
  repeat' (conv => whnf
           first
           | refine And.intro (fun h => Bool.noConfusion (h : false = true)) (fun _ => ?_)
           | refine And.intro (fun _ => ?_) (fun h => Bool.noConfusion (h : true = false))
           | refine And.intro (fun h => ?_) (fun h => ?_))
  all_goals refine Ends.mk (Or.inl rfl) (AV.weak.of_eq (congrArg AV.bool ?_))
  all_goals (simp_all <;> first | rfl | (intros; omega))
theorem Try.c70 (n a b : Int) : ACalls Try.prog 70 [.int .i64 n, .int .i64 a, .int .i64 b] (.bool (decide (a ≤ n) && decide (n ≤ b))) := by
  refine ACalls.of Try.TT_ok Try.keep70 Try.func70 rfl (by kernel_rfl) Try.mixed (by kernel_rfl) (Nat.le_of_ble_eq_true rfl) ?_
  intro F n' w0 m0 hG hro h1
  repeat' (conv => whnf
           first
           | refine And.intro (fun h => Bool.noConfusion (h : false = true)) (fun _ => ?_)
           | refine And.intro (fun _ => ?_) (fun h => Bool.noConfusion (h : true = false))
           | refine And.intro (fun h => ?_) (fun h => ?_))
  all_goals refine Ends.mk (Or.inl rfl) (AV.weak.of_eq (congrArg AV.bool ?_))
  all_goals (simp_all <;> first | rfl | (intros; omega))
theorem Try.c71 (n a b : Int) : ACalls Try.prog 71 [.int .i64 n, .int .i64 a, .int .i64 b] (.bool (decide (a ≤ n) && decide (n ≤ b))) := by
  refine ACalls.of Try.TT_ok Try.keep71 Try.func71 rfl (by kernel_rfl) Try.mixed (by kernel_rfl) (Nat.le_of_ble_eq_true rfl) ?_
  intro F n' w0 m0 hG hro h1
  repeat' (conv => whnf
           first
           | refine And.intro (fun h => Bool.noConfusion (h : false = true)) (fun _ => ?_)
           | refine And.intro (fun _ => ?_) (fun h => Bool.noConfusion (h : true = false))
           | refine And.intro (fun h => ?_) (fun h => ?_))
  all_goals refine Ends.mk (Or.inl rfl) (AV.weak.of_eq (congrArg AV.bool ?_))
  all_goals (simp_all <;> first | rfl | (intros; omega))
theorem Try.c54 (c n : Int) (hn : n ≠ 0) : ACalls Try.prog 54 [.int .i64 c, .int .i64 n] (.int .i64 (pickS c n)) := by
  refine ACalls.of Try.TT_ok Try.keep54 Try.func54 rfl (by kernel_rfl) Try.mixed (by kernel_rfl) (Nat.le_of_ble_eq_true rfl) ?_
  intro F n' w0 m0 hG hro h1
  repeat' (conv => whnf
           first
           | refine And.intro (fun h => Bool.noConfusion (h : false = true)) (fun _ => ?_)
           | refine And.intro (fun _ => ?_) (fun h => Bool.noConfusion (h : true = false))
           | refine And.intro hn ?_
           | refine And.intro (fun h => ?_) (fun h => ?_))
  all_goals refine Ends.mk (Or.inl rfl) (AV.weak.of_eq (congrArg (AV.int .i64) ?_))
  all_goals (simp_all [pickS, w64] <;> first | rfl | (intros; omega))
theorem Try.c56 (c n : Int) (hn : n ≠ 0) : ACalls Try.prog 56 [.int .i64 c, .int .i64 n] (.int .i64 (pickS c n)) := by
  refine ACalls.of Try.TT_ok Try.keep56 Try.func56 rfl (by kernel_rfl) Try.mixed (by kernel_rfl) (Nat.le_of_ble_eq_true rfl) ?_
  intro F n' w0 m0 hG hro h1
  repeat' (conv => whnf
           first
           | refine And.intro (fun h => Bool.noConfusion (h : false = true)) (fun _ => ?_)
           | refine And.intro (fun _ => ?_) (fun h => Bool.noConfusion (h : true = false))
           | refine And.intro hn ?_
           | refine And.intro (fun h => ?_) (fun h => ?_))
  all_goals refine Ends.mk (Or.inl rfl) (AV.weak.of_eq (congrArg (AV.int .i64) ?_))
  all_goals (simp_all [pickS, w64] <;> first | rfl | (intros; omega))
theorem Try.c66 (c n : Int) (hn : n ≠ 0) : ACalls Try.prog 66 [.int .i64 c, .int .i64 n] (.int .i64 (pickS c n)) := by
  refine ACalls.of Try.TT_ok Try.keep66 Try.func66 rfl (by kernel_rfl) Try.mixed (by kernel_rfl) (Nat.le_of_ble_eq_true rfl) ?_
  intro F n' w0 m0 hG hro h1
  repeat' (conv => whnf
           first
           | refine And.intro (fun h => Bool.noConfusion (h : false = true)) (fun _ => ?_)
           | refine And.intro (fun _ => ?_) (fun h => Bool.noConfusion (h : true = false))
           | refine And.intro hn ?_
           | refine And.intro (fun h => ?_) (fun h => ?_))
  all_goals refine Ends.mk (Or.inl rfl) (AV.weak.of_eq (congrArg (AV.int .i64) ?_))
  all_goals (simp_all [pickS, w64] <;> first | rfl | (intros; omega))
theorem Try.c43 (a b : Int) : ACalls Try.prog 43 [.agg [.int .i64 a, .int .i64 b]] (.bool (spanS a b)) := by
  refine ACalls.of Try.TT_ok Try.keep43 Try.func43 rfl (by kernel_rfl) Try.mixed (by kernel_rfl) (Nat.le_of_ble_eq_true rfl) ?_
  intro F n' w0 m0 hG hro h1
  repeat' (conv => whnf
           first
           | refine And.intro (fun h => Bool.noConfusion (h : false = true)) (fun _ => ?_)
           | refine And.intro (fun _ => ?_) (fun h => Bool.noConfusion (h : true = false))
           | refine And.intro (fun h => ?_) (fun h => ?_))
  all_goals refine Ends.mk (Or.inl rfl) (AV.weak.of_eq (congrArg AV.bool ?_))
  all_goals (simp_all [spanS, w64] <;> first | rfl | (intros; omega))
end Go.Proofs


namespace Go.Proofs
open Go Go.AI
set_option maxRecDepth 10000
def inS (n a b : Int) : Bool := decide (a ≤ n) && decide (n ≤ b)
theorem Try.c57 (x : Aim3) : ACalls Try.prog 57 [.agg (aimA x)] (.bool (decide (0 ≤ x.a) && decide (x.a < x.b) && decide (x.b ≤ 1000000))) := by
  refine ACalls.of Try.TT_ok Try.keep57 Try.func57 rfl (by kernel_rfl) Try.mixed (by kernel_rfl) (Nat.le_of_ble_eq_true rfl) ?_
  intro F n' w0 m0 hG hro h1
  repeat' (conv => whnf
           first
           | refine And.intro (fun h => Bool.noConfusion (h : false = true)) (fun _ => ?_)
           | refine And.intro (fun _ => ?_) (fun h => Bool.noConfusion (h : true = false))
           | refine And.intro (fun h => ?_) (fun h => ?_))
  all_goals refine Ends.mk (Or.inl rfl) (AV.weak.of_eq (congrArg AV.bool ?_))
  all_goals (simp_all <;> first | rfl | (intros; omega) | (intros; simp_all; done) | (intros; simp_all; omega))
theorem Try.c58 (x : Aim3) : ACalls Try.prog 58 [.agg (aimA x)] (.bool (decide (w64 (x.b - x.a) ≤ 60))) := by
  refine ACalls.of Try.TT_ok Try.keep58 Try.func58 rfl (by kernel_rfl) Try.mixed (by kernel_rfl) (Nat.le_of_ble_eq_true rfl) ?_
  intro F n' w0 m0 hG hro h1
  repeat' (conv => whnf
           first
           | refine And.intro (fun h => Bool.noConfusion (h : false = true)) (fun _ => ?_)
           | refine And.intro (fun _ => ?_) (fun h => Bool.noConfusion (h : true = false))
           | refine And.intro (fun h => ?_) (fun h => ?_))
  all_goals refine Ends.mk (Or.inl rfl) (AV.weak.of_eq (congrArg AV.bool ?_))
  all_goals rfl
theorem Try.c59 (s : Nat → Int) (x : Aim3) : ACalls Try.prog 59 [.agg (aimA x), .ref (satA s)] (.bool (inS x.k (w64 (0 - s 9)) (s 9))) := by
  refine ACalls.of Try.TT_ok Try.keep59 Try.func59 rfl (by kernel_rfl) Try.mixed (by kernel_rfl) (Nat.le_of_ble_eq_true rfl) ?_
  intro F n' w0 m0 hG hro h1
  repeat' (conv => whnf
           first
           | refine And.intro (fun h => Bool.noConfusion (h : false = true)) (fun _ => ?_)
           | refine And.intro (fun _ => ?_) (fun h => Bool.noConfusion (h : true = false))
           | refine Exists.intro _ (And.intro (Try.c48 _ _ _) ?_)
           | refine And.intro (fun h => ?_) (fun h => ?_))
  all_goals refine Ends.mk (Or.inl rfl) (AV.weak.of_eq (congrArg AV.bool ?_))
  all_goals rfl
def orbA (o : Nat → Int) : List AV := [.int .i64 (o 0), .int .i64 (o 1), .int .i64 (o 2), .int .i64 (o 3), .int .i64 (o 4), .int .i64 (o 5), .int .i64 (o 6)]
def orbS (o : Nat → Int) : Bool := inS (o 0) 20 2000 && decide ((o 0).tmod 2 = 0) && inS (o 1) 0 (w64 (o 0 - 1)) && (inS (o 2) 0 23999 && inS (o 3) 0 23999 && decide (o 2 < o 3)) && inS (o 4) 0 47999 && inS (o 5) (-2000) 2000 && inS (o 6) 0 10
theorem Try.c61 (o : Nat → Int) : ACalls Try.prog 61 [.agg (orbA o)] (.bool (orbS o)) := by
  refine ACalls.of Try.TT_ok Try.keep61 Try.func61 rfl (by kernel_rfl) Try.mixed (by kernel_rfl) (Nat.le_of_ble_eq_true rfl) ?_
  intro F n' w0 m0 hG hro h1
  repeat' (conv => whnf
           first
           | refine And.intro (fun h => Bool.noConfusion (h : false = true)) (fun _ => ?_)
           | refine And.intro (fun _ => ?_) (fun h => Bool.noConfusion (h : true = false))
           | refine Exists.intro _ (And.intro (Try.c70 _ _ _) ?_)
           | refine And.intro (by decide) ?_
           | refine And.intro (fun h => ?_) (fun h => ?_))
  all_goals refine Ends.mk (Or.inl rfl) (AV.weak.of_eq (congrArg AV.bool ?_))
  all_goals (dsimp only [orbS, inS, w64]; rw [Bool.eq_iff_iff]; simp only [Bool.and_eq_true, Bool.and_eq_false_iff, decide_eq_true_eq, decide_eq_false_iff_not, beq_iff_eq, beq_eq_false_iff_ne, bne_iff_ne, bne_eq_false_iff_eq, Bool.not_eq_true', Bool.not_eq_false', Bool.false_eq_true, false_iff] at *; generalize IntKind.i64.wrap (o 0 - 1) = q at *; generalize (o 0).tmod 2 = r at *; omega)
theorem Try.c62 (o : Nat → Int) : ACalls Try.prog 62 [.agg (orbA o)] (.bool (orbS o)) := by
  refine ACalls.of Try.TT_ok Try.keep62 Try.func62 rfl (by kernel_rfl) Try.mixed (by kernel_rfl) (Nat.le_of_ble_eq_true rfl) ?_
  intro F n' w0 m0 hG hro h1
  repeat' (conv => whnf
           first
           | refine And.intro (fun h => Bool.noConfusion (h : false = true)) (fun _ => ?_)
           | refine And.intro (fun _ => ?_) (fun h => Bool.noConfusion (h : true = false))
           | refine Exists.intro _ (And.intro (Try.c71 _ _ _) ?_)
           | refine And.intro (by decide) ?_
           | refine And.intro (fun h => ?_) (fun h => ?_))
  all_goals refine Ends.mk (Or.inl rfl) (AV.weak.of_eq (congrArg AV.bool ?_))
  all_goals (dsimp only [orbS, inS, w64]; rw [Bool.eq_iff_iff]; simp only [Bool.and_eq_true, Bool.and_eq_false_iff, decide_eq_true_eq, decide_eq_false_iff_not, beq_iff_eq, beq_eq_false_iff_ne, bne_iff_ne, bne_eq_false_iff_eq, Bool.not_eq_true', Bool.not_eq_false', Bool.false_eq_true, false_iff] at *; generalize IntKind.i64.wrap (o 0 - 1) = q at *; generalize (o 0).tmod 2 = r at *; omega)
end Go.Proofs


namespace Go.Proofs
open Go Go.AI
set_option maxRecDepth 10000
/-- The first place of an element, or -1. -/
def idxF {α : Type} (p : α → Bool) : List α → Nat → Int
  | [], _ => -1
  | x :: r, k => if p x then k else idxF p r (k + 1)
theorem idxF_step {α : Type} {p : α → Bool} {l : List α} {j : Nat} (hj : j < l.length) : idxF p (l.drop j) j = if p l[j] then (j : Int) else idxF p (l.drop (j + 1)) (j + 1) := by rw [List.drop_eq_getElem_cons hj]; rfl
structure Bnd where
  n : Int
  lo : Int
  hi : Int
def bndA (x : Bnd) : List AV := [.int .i64 x.n, .int .i64 x.lo, .int .i64 x.hi]
def intA (x : Int) : List AV := [.int .i64 x]
theorem Try.c72 (l : List Bnd) (p : Bnd → Bool) (g : FuncId) (fv : AV) (cap : List AV) (hf : fv = .clo g cap ∨ (fv = .fn g ∧ cap = [])) (hl : l.length ≤ 1000000)
    (hp : ∀ x ∈ l, ACalls Try.prog g ((.agg (bndA x)) :: cap) (.bool (p x))) : ACalls Try.prog 72 [.sl .no 3 (l.map bndA), fv] (.int .i64 (idxF p l 0)) := by
  have main : ∀ fv : AV, ((fv = .clo g cap) ∨ (fv = .fn g ∧ cap = [])) → ACalls Try.prog 72 [.sl .no 3 (l.map bndA), fv] (.int .i64 (idxF p l 0)) := by
    rintro fv (rfl | ⟨rfl, rfl⟩)
    · refine ACalls.of Try.TT_ok Try.keep72 Try.func72 rfl (by kernel_rfl) Try.mixed (by kernel_rfl) (Nat.le_of_ble_eq_true rfl) ?_
      intro F n w0 m0 hG hro h1
      refine SP.loop (X := Nat) (fun j => ⟨[(8, .int .i64 j), (7, .int .i64 (l.map bndA).length), (0, .sl .no 3 (l.map bndA)), (1, .clo g cap)], []⟩) (fun j => j ≤ l.length ∧ idxF p (l.drop j) j = idxF p l 0) (fun j => l.length - j) 0
        ⟨Nat.zero_le _, by simp⟩ (St.le.of ?_ trivial) (fun j hj => ?_)
      · repeat' (first | exact trivial | refine And.intro rfl ?_)
      · obtain ⟨hj, hi⟩ := hj
        refine awp_sound (keep := Try.keep72) hG Try.TT_ok _ _ _ (by kernel_rfl) ?_
        refine And.intro (fun h => ?_) (fun h => ?_)
        · have hj2 : j < l.length := by have := of_decide_eq_true h; simp at this; omega
          have hx : (l.map bndA)[(j : Int).toNat]? = some (bndA l[j]) := by simp [List.getElem?_eq_getElem hj2]
          rw [idxF_step hj2] at hi
          refine And.intro (by omega) (Exists.intro (bndA l[j]) (And.intro hx ?_))
          refine Exists.intro _ (And.intro (hp l[j] (List.getElem_mem hj2)) ?_)
          refine And.intro (fun h2 => ?_) (fun h2 => ?_)
          · rw [if_pos h2] at hi
            exact Ends.mk (Or.inl rfl) (AV.weak.of_eq (congrArg (AV.int .i64) hi))
          · rw [if_neg (by rw [h2]; exact Bool.false_ne_true)] at hi
            refine Exists.intro (j + 1) (And.intro ⟨hj2, hi⟩ (And.intro (by omega) (St.le.of ?_ trivial)))
            refine And.intro (congrArg (fun z => some (AV.int .i64 z)) ((w64_in (by omega) (by omega)).trans (by omega))) ?_
            repeat' (first | exact trivial | refine And.intro rfl ?_)
        · have hj2 : l.length ≤ j := by have := of_decide_eq_false h; simp at this; omega
          rw [List.drop_of_length_le hj2] at hi
          exact Ends.mk (Or.inl rfl) (AV.weak.of_eq (congrArg (AV.int .i64) hi))
    · refine ACalls.of Try.TT_ok Try.keep72 Try.func72 rfl (by kernel_rfl) Try.mixed (by kernel_rfl) (Nat.le_of_ble_eq_true rfl) ?_
      intro F n w0 m0 hG hro h1
      refine SP.loop (X := Nat) (fun j => ⟨[(8, .int .i64 j), (7, .int .i64 (l.map bndA).length), (0, .sl .no 3 (l.map bndA)), (1, .fn g)], []⟩) (fun j => j ≤ l.length ∧ idxF p (l.drop j) j = idxF p l 0) (fun j => l.length - j) 0
        ⟨Nat.zero_le _, by simp⟩ (St.le.of ?_ trivial) (fun j hj => ?_)
      · repeat' (first | exact trivial | refine And.intro rfl ?_)
      · obtain ⟨hj, hi⟩ := hj
        refine awp_sound (keep := Try.keep72) hG Try.TT_ok _ _ _ (by kernel_rfl) ?_
        refine And.intro (fun h => ?_) (fun h => ?_)
        · have hj2 : j < l.length := by have := of_decide_eq_true h; simp at this; omega
          have hx : (l.map bndA)[(j : Int).toNat]? = some (bndA l[j]) := by simp [List.getElem?_eq_getElem hj2]
          rw [idxF_step hj2] at hi
          refine And.intro (by omega) (Exists.intro (bndA l[j]) (And.intro hx ?_))
          refine Exists.intro _ (And.intro (hp l[j] (List.getElem_mem hj2)) ?_)
          refine And.intro (fun h2 => ?_) (fun h2 => ?_)
          · rw [if_pos h2] at hi
            exact Ends.mk (Or.inl rfl) (AV.weak.of_eq (congrArg (AV.int .i64) hi))
          · rw [if_neg (by rw [h2]; exact Bool.false_ne_true)] at hi
            refine Exists.intro (j + 1) (And.intro ⟨hj2, hi⟩ (And.intro (by omega) (St.le.of ?_ trivial)))
            refine And.intro (congrArg (fun z => some (AV.int .i64 z)) ((w64_in (by omega) (by omega)).trans (by omega))) ?_
            repeat' (first | exact trivial | refine And.intro rfl ?_)
        · have hj2 : l.length ≤ j := by have := of_decide_eq_false h; simp at this; omega
          rw [List.drop_of_length_le hj2] at hi
          exact Ends.mk (Or.inl rfl) (AV.weak.of_eq (congrArg (AV.int .i64) hi))
  exact main fv hf
theorem Try.c65 (l : List Aim3) (p : Aim3 → Bool) (g : FuncId) (fv : AV) (cap : List AV) (hf : fv = .clo g cap ∨ (fv = .fn g ∧ cap = [])) (hl : l.length ≤ 1000000)
    (hp : ∀ x ∈ l, ACalls Try.prog g ((.agg (aimA x)) :: cap) (.bool (p x))) : ACalls Try.prog 65 [.sl .no 3 (l.map aimA), fv] (.int .i64 (idxF p l 0)) := by
  have main : ∀ fv : AV, ((fv = .clo g cap) ∨ (fv = .fn g ∧ cap = [])) → ACalls Try.prog 65 [.sl .no 3 (l.map aimA), fv] (.int .i64 (idxF p l 0)) := by
    rintro fv (rfl | ⟨rfl, rfl⟩)
    · refine ACalls.of Try.TT_ok Try.keep65 Try.func65 rfl (by kernel_rfl) Try.mixed (by kernel_rfl) (Nat.le_of_ble_eq_true rfl) ?_
      intro F n w0 m0 hG hro h1
      refine SP.loop (X := Nat) (fun j => ⟨[(8, .int .i64 j), (7, .int .i64 (l.map aimA).length), (0, .sl .no 3 (l.map aimA)), (1, .clo g cap)], []⟩) (fun j => j ≤ l.length ∧ idxF p (l.drop j) j = idxF p l 0) (fun j => l.length - j) 0
        ⟨Nat.zero_le _, by simp⟩ (St.le.of ?_ trivial) (fun j hj => ?_)
      · repeat' (first | exact trivial | refine And.intro rfl ?_)
      · obtain ⟨hj, hi⟩ := hj
        refine awp_sound (keep := Try.keep65) hG Try.TT_ok _ _ _ (by kernel_rfl) ?_
        refine And.intro (fun h => ?_) (fun h => ?_)
        · have hj2 : j < l.length := by have := of_decide_eq_true h; simp at this; omega
          have hx : (l.map aimA)[(j : Int).toNat]? = some (aimA l[j]) := by simp [List.getElem?_eq_getElem hj2]
          rw [idxF_step hj2] at hi
          refine And.intro (by omega) (Exists.intro (aimA l[j]) (And.intro hx ?_))
          refine Exists.intro _ (And.intro (hp l[j] (List.getElem_mem hj2)) ?_)
          refine And.intro (fun h2 => ?_) (fun h2 => ?_)
          · rw [if_pos h2] at hi
            exact Ends.mk (Or.inl rfl) (AV.weak.of_eq (congrArg (AV.int .i64) hi))
          · rw [if_neg (by rw [h2]; exact Bool.false_ne_true)] at hi
            refine Exists.intro (j + 1) (And.intro ⟨hj2, hi⟩ (And.intro (by omega) (St.le.of ?_ trivial)))
            refine And.intro (congrArg (fun z => some (AV.int .i64 z)) ((w64_in (by omega) (by omega)).trans (by omega))) ?_
            repeat' (first | exact trivial | refine And.intro rfl ?_)
        · have hj2 : l.length ≤ j := by have := of_decide_eq_false h; simp at this; omega
          rw [List.drop_of_length_le hj2] at hi
          exact Ends.mk (Or.inl rfl) (AV.weak.of_eq (congrArg (AV.int .i64) hi))
    · refine ACalls.of Try.TT_ok Try.keep65 Try.func65 rfl (by kernel_rfl) Try.mixed (by kernel_rfl) (Nat.le_of_ble_eq_true rfl) ?_
      intro F n w0 m0 hG hro h1
      refine SP.loop (X := Nat) (fun j => ⟨[(8, .int .i64 j), (7, .int .i64 (l.map aimA).length), (0, .sl .no 3 (l.map aimA)), (1, .fn g)], []⟩) (fun j => j ≤ l.length ∧ idxF p (l.drop j) j = idxF p l 0) (fun j => l.length - j) 0
        ⟨Nat.zero_le _, by simp⟩ (St.le.of ?_ trivial) (fun j hj => ?_)
      · repeat' (first | exact trivial | refine And.intro rfl ?_)
      · obtain ⟨hj, hi⟩ := hj
        refine awp_sound (keep := Try.keep65) hG Try.TT_ok _ _ _ (by kernel_rfl) ?_
        refine And.intro (fun h => ?_) (fun h => ?_)
        · have hj2 : j < l.length := by have := of_decide_eq_true h; simp at this; omega
          have hx : (l.map aimA)[(j : Int).toNat]? = some (aimA l[j]) := by simp [List.getElem?_eq_getElem hj2]
          rw [idxF_step hj2] at hi
          refine And.intro (by omega) (Exists.intro (aimA l[j]) (And.intro hx ?_))
          refine Exists.intro _ (And.intro (hp l[j] (List.getElem_mem hj2)) ?_)
          refine And.intro (fun h2 => ?_) (fun h2 => ?_)
          · rw [if_pos h2] at hi
            exact Ends.mk (Or.inl rfl) (AV.weak.of_eq (congrArg (AV.int .i64) hi))
          · rw [if_neg (by rw [h2]; exact Bool.false_ne_true)] at hi
            refine Exists.intro (j + 1) (And.intro ⟨hj2, hi⟩ (And.intro (by omega) (St.le.of ?_ trivial)))
            refine And.intro (congrArg (fun z => some (AV.int .i64 z)) ((w64_in (by omega) (by omega)).trans (by omega))) ?_
            repeat' (first | exact trivial | refine And.intro rfl ?_)
        · have hj2 : l.length ≤ j := by have := of_decide_eq_false h; simp at this; omega
          rw [List.drop_of_length_le hj2] at hi
          exact Ends.mk (Or.inl rfl) (AV.weak.of_eq (congrArg (AV.int .i64) hi))
  exact main fv hf
theorem Try.c45 (l : List Int) (p : Int → Bool) (g : FuncId) (fv : AV) (cap : List AV) (hf : fv = .clo g cap ∨ (fv = .fn g ∧ cap = [])) (hl : l.length ≤ 1000000)
    (hp : ∀ x ∈ l, ACalls Try.prog g ((.int .i64 x) :: cap) (.bool (p x))) : ACalls Try.prog 45 [.sl .no 1 (l.map intA), fv] (.int .i64 (idxF p l 0)) := by
  have main : ∀ fv : AV, ((fv = .clo g cap) ∨ (fv = .fn g ∧ cap = [])) → ACalls Try.prog 45 [.sl .no 1 (l.map intA), fv] (.int .i64 (idxF p l 0)) := by
    rintro fv (rfl | ⟨rfl, rfl⟩)
    · refine ACalls.of Try.TT_ok Try.keep45 Try.func45 rfl (by kernel_rfl) Try.mixed (by kernel_rfl) (Nat.le_of_ble_eq_true rfl) ?_
      intro F n w0 m0 hG hro h1
      refine SP.loop (X := Nat) (fun j => ⟨[(8, .int .i64 j), (7, .int .i64 (l.map intA).length), (0, .sl .no 1 (l.map intA)), (1, .clo g cap)], []⟩) (fun j => j ≤ l.length ∧ idxF p (l.drop j) j = idxF p l 0) (fun j => l.length - j) 0
        ⟨Nat.zero_le _, by simp⟩ (St.le.of ?_ trivial) (fun j hj => ?_)
      · repeat' (first | exact trivial | refine And.intro rfl ?_)
      · obtain ⟨hj, hi⟩ := hj
        refine awp_sound (keep := Try.keep45) hG Try.TT_ok _ _ _ (by kernel_rfl) ?_
        refine And.intro (fun h => ?_) (fun h => ?_)
        · have hj2 : j < l.length := by have := of_decide_eq_true h; simp at this; omega
          have hx : (l.map intA)[(j : Int).toNat]? = some (intA l[j]) := by simp [List.getElem?_eq_getElem hj2]
          rw [idxF_step hj2] at hi
          refine And.intro (by omega) (Exists.intro (intA l[j]) (And.intro hx ?_))
          refine Exists.intro _ (And.intro (hp l[j] (List.getElem_mem hj2)) ?_)
          refine And.intro (fun h2 => ?_) (fun h2 => ?_)
          · rw [if_pos h2] at hi
            exact Ends.mk (Or.inl rfl) (AV.weak.of_eq (congrArg (AV.int .i64) hi))
          · rw [if_neg (by rw [h2]; exact Bool.false_ne_true)] at hi
            refine Exists.intro (j + 1) (And.intro ⟨hj2, hi⟩ (And.intro (by omega) (St.le.of ?_ trivial)))
            refine And.intro (congrArg (fun z => some (AV.int .i64 z)) ((w64_in (by omega) (by omega)).trans (by omega))) ?_
            repeat' (first | exact trivial | refine And.intro rfl ?_)
        · have hj2 : l.length ≤ j := by have := of_decide_eq_false h; simp at this; omega
          rw [List.drop_of_length_le hj2] at hi
          exact Ends.mk (Or.inl rfl) (AV.weak.of_eq (congrArg (AV.int .i64) hi))
    · refine ACalls.of Try.TT_ok Try.keep45 Try.func45 rfl (by kernel_rfl) Try.mixed (by kernel_rfl) (Nat.le_of_ble_eq_true rfl) ?_
      intro F n w0 m0 hG hro h1
      refine SP.loop (X := Nat) (fun j => ⟨[(8, .int .i64 j), (7, .int .i64 (l.map intA).length), (0, .sl .no 1 (l.map intA)), (1, .fn g)], []⟩) (fun j => j ≤ l.length ∧ idxF p (l.drop j) j = idxF p l 0) (fun j => l.length - j) 0
        ⟨Nat.zero_le _, by simp⟩ (St.le.of ?_ trivial) (fun j hj => ?_)
      · repeat' (first | exact trivial | refine And.intro rfl ?_)
      · obtain ⟨hj, hi⟩ := hj
        refine awp_sound (keep := Try.keep45) hG Try.TT_ok _ _ _ (by kernel_rfl) ?_
        refine And.intro (fun h => ?_) (fun h => ?_)
        · have hj2 : j < l.length := by have := of_decide_eq_true h; simp at this; omega
          have hx : (l.map intA)[(j : Int).toNat]? = some (intA l[j]) := by simp [List.getElem?_eq_getElem hj2]
          rw [idxF_step hj2] at hi
          refine And.intro (by omega) (Exists.intro (intA l[j]) (And.intro hx ?_))
          refine Exists.intro _ (And.intro (hp l[j] (List.getElem_mem hj2)) ?_)
          refine And.intro (fun h2 => ?_) (fun h2 => ?_)
          · rw [if_pos h2] at hi
            exact Ends.mk (Or.inl rfl) (AV.weak.of_eq (congrArg (AV.int .i64) hi))
          · rw [if_neg (by rw [h2]; exact Bool.false_ne_true)] at hi
            refine Exists.intro (j + 1) (And.intro ⟨hj2, hi⟩ (And.intro (by omega) (St.le.of ?_ trivial)))
            refine And.intro (congrArg (fun z => some (AV.int .i64 z)) ((w64_in (by omega) (by omega)).trans (by omega))) ?_
            repeat' (first | exact trivial | refine And.intro rfl ?_)
        · have hj2 : l.length ≤ j := by have := of_decide_eq_false h; simp at this; omega
          rw [List.drop_of_length_le hj2] at hi
          exact Ends.mk (Or.inl rfl) (AV.weak.of_eq (congrArg (AV.int .i64) hi))
  exact main fv hf
end Go.Proofs


namespace Go.Proofs
open Go Go.AI
set_option maxRecDepth 10000
theorem idxF_any {α : Type} (p : α → Bool) : ∀ (l : List α) (k : Nat), decide (idxF p l k ≥ 0) = l.any p
  | [], k => rfl
  | x :: r, k => by
    simp only [idxF, List.any_cons]
    by_cases h : p x = true
    · simp [h]
    · have := idxF_any p r (k + 1); simp only [Bool.not_eq_true] at h; simp [h] at this ⊢; exact this
theorem Try.c68 (x : Bnd) : ACalls Try.prog 68 [.agg (bndA x)] (.bool (!inS x.n x.lo x.hi)) := by
  refine ACalls.of Try.TT_ok Try.keep68 Try.func68 rfl (by kernel_rfl) Try.mixed (by kernel_rfl) (Nat.le_of_ble_eq_true rfl) ?_
  intro F n' w0 m0 hG hro h1
  repeat' (conv => whnf
           first
           | refine And.intro (fun h => Bool.noConfusion (h : false = true)) (fun _ => ?_)
           | refine And.intro (fun _ => ?_) (fun h => Bool.noConfusion (h : true = false))
           | refine Exists.intro _ (And.intro (Try.c69 _ _ _) ?_)
           | refine And.intro (fun h => ?_) (fun h => ?_))
  all_goals refine Ends.mk (Or.inl rfl) (AV.weak.of_eq (congrArg AV.bool ?_))
  all_goals rfl
theorem Try.c67 (l : List Bnd) (p : Bnd → Bool) (g : FuncId) (fv : AV) (cap : List AV) (hf : fv = .clo g cap ∨ (fv = .fn g ∧ cap = [])) (hl : l.length ≤ 1000000)
    (hp : ∀ x ∈ l, ACalls Try.prog g ((.agg (bndA x)) :: cap) (.bool (p x))) : ACalls Try.prog 67 [.sl .no 3 (l.map bndA), fv] (.bool (l.any p)) := by
  rcases hf with rfl | ⟨rfl, rfl⟩
  · refine ACalls.of Try.TT_ok Try.keep67 Try.func67 rfl (by kernel_rfl) Try.mixed (by kernel_rfl) (Nat.le_of_ble_eq_true rfl) ?_
    intro F n' w0 m0 hG hro h1
    repeat' (conv => whnf
             first
             | refine And.intro (fun h => Bool.noConfusion (h : false = true)) (fun _ => ?_)
             | refine And.intro (fun _ => ?_) (fun h => Bool.noConfusion (h : true = false))
             | refine Exists.intro _ (And.intro (Try.c72 l p g _ _ (Or.inl rfl) hl hp) ?_)
             | refine And.intro (fun h => ?_) (fun h => ?_))
    all_goals refine Ends.mk (Or.inl rfl) (AV.weak.of_eq (congrArg AV.bool ?_))
    all_goals exact idxF_any p l 0
  · refine ACalls.of Try.TT_ok Try.keep67 Try.func67 rfl (by kernel_rfl) Try.mixed (by kernel_rfl) (Nat.le_of_ble_eq_true rfl) ?_
    intro F n' w0 m0 hG hro h1
    repeat' (conv => whnf
             first
             | refine And.intro (fun h => Bool.noConfusion (h : false = true)) (fun _ => ?_)
             | refine And.intro (fun _ => ?_) (fun h => Bool.noConfusion (h : true = false))
             | refine Exists.intro _ (And.intro (Try.c72 l p g _ _ (Or.inr ⟨rfl, rfl⟩) hl hp) ?_)
             | refine And.intro (fun h => ?_) (fun h => ?_))
    all_goals refine Ends.mk (Or.inl rfl) (AV.weak.of_eq (congrArg AV.bool ?_))
    all_goals exact idxF_any p l 0
theorem Try.c49 (l : List Aim3) (p : Aim3 → Bool) (g : FuncId) (fv : AV) (cap : List AV) (hf : fv = .clo g cap ∨ (fv = .fn g ∧ cap = [])) (hl : l.length ≤ 1000000)
    (hp : ∀ x ∈ l, ACalls Try.prog g ((.agg (aimA x)) :: cap) (.bool (p x))) : ACalls Try.prog 49 [.sl .no 3 (l.map aimA), fv] (.bool (l.any p)) := by
  rcases hf with rfl | ⟨rfl, rfl⟩
  · refine ACalls.of Try.TT_ok Try.keep49 Try.func49 rfl (by kernel_rfl) Try.mixed (by kernel_rfl) (Nat.le_of_ble_eq_true rfl) ?_
    intro F n' w0 m0 hG hro h1
    repeat' (conv => whnf
             first
             | refine And.intro (fun h => Bool.noConfusion (h : false = true)) (fun _ => ?_)
             | refine And.intro (fun _ => ?_) (fun h => Bool.noConfusion (h : true = false))
             | refine Exists.intro _ (And.intro (Try.c65 l p g _ _ (Or.inl rfl) hl hp) ?_)
             | refine And.intro (fun h => ?_) (fun h => ?_))
    all_goals refine Ends.mk (Or.inl rfl) (AV.weak.of_eq (congrArg AV.bool ?_))
    all_goals exact idxF_any p l 0
  · refine ACalls.of Try.TT_ok Try.keep49 Try.func49 rfl (by kernel_rfl) Try.mixed (by kernel_rfl) (Nat.le_of_ble_eq_true rfl) ?_
    intro F n' w0 m0 hG hro h1
    repeat' (conv => whnf
             first
             | refine And.intro (fun h => Bool.noConfusion (h : false = true)) (fun _ => ?_)
             | refine And.intro (fun _ => ?_) (fun h => Bool.noConfusion (h : true = false))
             | refine Exists.intro _ (And.intro (Try.c65 l p g _ _ (Or.inr ⟨rfl, rfl⟩) hl hp) ?_)
             | refine And.intro (fun h => ?_) (fun h => ?_))
    all_goals refine Ends.mk (Or.inl rfl) (AV.weak.of_eq (congrArg AV.bool ?_))
    all_goals exact idxF_any p l 0
theorem Try.c60 (l : List Bnd) (hl : l.length ≤ 1000000) : ACalls Try.prog 60 [.sl .no 3 (l.map bndA)] (.bool (l.all fun x => inS x.n x.lo x.hi)) := by
  refine ACalls.of Try.TT_ok Try.keep60 Try.func60 rfl (by kernel_rfl) Try.mixed (by kernel_rfl) (Nat.le_of_ble_eq_true rfl) ?_
  intro F n' w0 m0 hG hro h1
  repeat' (conv => whnf
           first
           | refine And.intro (fun h => Bool.noConfusion (h : false = true)) (fun _ => ?_)
           | refine And.intro (fun _ => ?_) (fun h => Bool.noConfusion (h : true = false))
           | refine Exists.intro _ (And.intro (Try.c67 l (fun x => !inS x.n x.lo x.hi) 68 _ [] (Or.inr ⟨rfl, rfl⟩) hl (fun x _ => Try.c68 x)) ?_)
           | refine And.intro (fun h => ?_) (fun h => ?_))
  all_goals refine Ends.mk (Or.inl rfl) (AV.weak.of_eq (congrArg AV.bool ?_))
  all_goals (rw [List.all_eq_not_any_not])
def satS (s : Nat → Int) : Bool := ((inS (s 0) 0 23 && (inS (s 1) 0 15 && (inS (s 9) 0 4 && (inS (s 10) 1 1000000 && (inS (s 19) 0 60 && inS (s 20) 1 1000))))) &&
  (inS (s 11) 1 1000000 && (inS (s 12) 0 10000 && (inS (s 13) 0 10000 && (inS (s 14) 0 10000 && inS (s 15) 0 10000))))) && (inS (s 16) 0 10000 && (inS (s 17) 0 10000 && inS (s 18) 1 1000000)) && orbS (fun i => s (i + 2))
theorem Try.c35 (s : Nat → Int) : ACalls Try.prog 35 [.agg (satA s)] (.bool (satS s)) := by
  refine ACalls.of Try.TT_ok Try.keep35 Try.func35 rfl (by kernel_rfl) Try.mixed (by kernel_rfl) (Nat.le_of_ble_eq_true rfl) ?_
  intro F n' w0 m0 hG hro h1
  repeat' (conv => whnf
           first
           | refine And.intro (fun h => Bool.noConfusion (h : false = true)) (fun _ => ?_)
           | refine And.intro (fun _ => ?_) (fun h => Bool.noConfusion (h : true = false))
           | refine Exists.intro _ (And.intro ((Try.c60 [⟨s 0, 0, 23⟩, ⟨s 1, 0, 15⟩, ⟨s 9, 0, 4⟩, ⟨s 10, 1, 1000000⟩, ⟨s 19, 0, 60⟩, ⟨s 20, 1, 1000⟩] (Nat.le_of_ble_eq_true rfl)).sl0) ?_)
           | refine Exists.intro _ (And.intro ((Try.c60 [⟨s 11, 1, 1000000⟩, ⟨s 12, 0, 10000⟩, ⟨s 13, 0, 10000⟩, ⟨s 14, 0, 10000⟩, ⟨s 15, 0, 10000⟩] (Nat.le_of_ble_eq_true rfl)).sl0) ?_)
           | refine Exists.intro _ (And.intro ((Try.c60 [⟨s 16, 0, 10000⟩, ⟨s 17, 0, 10000⟩, ⟨s 18, 1, 1000000⟩] (Nat.le_of_ble_eq_true rfl)).sl0) ?_)
           | refine Exists.intro _ (And.intro (Try.c61 (fun i => s (i + 2))) ?_)
           | refine And.intro (fun h => ?_) (fun h => ?_))
  all_goals refine Ends.mk (Or.inl rfl) (AV.weak.of_eq (congrArg AV.bool ?_))
  all_goals (simp only [List.all_cons, List.all_nil, Bool.and_true] at *; simp only [satS, *]; try rfl)
end Go.Proofs


namespace Go.Proofs
open Go Go.AI
set_option maxRecDepth 10000
def aimS (s : Nat → Int) (x : Aim3) : Bool := decide (0 ≤ x.a) && decide (x.a < x.b) && decide (x.b ≤ 1000000) && decide (w64 (x.b - x.a) ≤ 60) && inS x.k (w64 (0 - s 9)) (s 9)
theorem Try.i53 (n a b : Int) : ACalls Try.prog 53 [.int .i64 n, .int .i64 a, .int .i64 b] (.bool (inS n a b)) := Try.c53 n a b
theorem Try.i63 (n a b : Int) : ACalls Try.prog 63 [.int .i64 n, .int .i64 a, .int .i64 b] (.bool (inS n a b)) := Try.c63 n a b
theorem Try.c37 (s : Nat → Int) (x : Aim3) : ACalls Try.prog 37 [.agg (satA s), .agg (aimA x)] (.bool (aimS s x)) := by
  refine ACalls.of Try.TT_ok Try.keep37 Try.func37 rfl (by kernel_rfl) Try.mixed (by kernel_rfl) (Nat.le_of_ble_eq_true rfl) ?_
  intro F n' w0 m0 hG hro h1
  repeat' (conv => whnf
           first
           | refine And.intro (fun h => Bool.noConfusion (h : false = true)) (fun _ => ?_)
           | refine And.intro (fun _ => ?_) (fun h => Bool.noConfusion (h : true = false))
           | refine Exists.intro _ (And.intro (Try.i53 _ _ _) ?_)
           | refine And.intro (fun h => ?_) (fun h => ?_))
  all_goals refine Ends.mk (Or.inl rfl) (AV.weak.of_eq (congrArg AV.bool ?_))
  all_goals dsimp only [aimS]
  all_goals simp only [ge_iff_le] at *
  all_goals (rw [Bool.eq_iff_iff]; simp only [Bool.and_eq_true, decide_eq_true_eq, decide_eq_false_iff_not, Bool.false_eq_true] at *; dsimp only [w64] at *; simp only [*, true_and, false_and, and_false])
theorem Try.c36 (s : Nat → Int) : ACalls Try.prog 36 [.agg (satA s)] (.bool (satS s)) := by
  refine ACalls.of Try.TT_ok Try.keep36 Try.func36 rfl (by kernel_rfl) Try.mixed (by kernel_rfl) (Nat.le_of_ble_eq_true rfl) ?_
  intro F n' w0 m0 hG hro h1
  repeat' (conv => whnf
           first
           | refine And.intro (fun h => Bool.noConfusion (h : false = true)) (fun _ => ?_)
           | refine And.intro (fun _ => ?_) (fun h => Bool.noConfusion (h : true = false))
           | refine Exists.intro _ (And.intro (Try.i63 _ _ _) ?_)
           | refine Exists.intro _ (And.intro (Try.c62 (fun i => s (i + 2))) ?_)
           | refine And.intro (fun h => ?_) (fun h => ?_))
  all_goals refine Ends.mk (Or.inl rfl) (AV.weak.of_eq (congrArg AV.bool ?_))
  all_goals (simp only [Bool.not_eq_true', Bool.not_eq_false'] at *)
  all_goals (simp only [satS, *, Bool.true_and, Bool.and_true, Bool.false_and, Bool.and_false])
end Go.Proofs


namespace Go.Proofs
open Go Go.AI
set_option maxRecDepth 10000
theorem notT {b : Bool} (h : (!b) = true) : b = false := by cases b <;> simp_all
theorem notF {b : Bool} (h : (!b) = false) : b = true := by cases b <;> simp_all
theorem le_next {n : Nat} (h : n < 1000000) : AV.int .i64 (IntKind.i64.wrap ((n : Int) + 1)) = AV.int .i64 ((n + 1 : Nat) : Int) := congrArg _ ((w64_in (by omega) (by omega)).trans (by omega))
def tst (s : Nat → Int) (x : Aim3) (j : Nat) : Bool := match j with
  | 0 => decide (0 ≤ x.a) && decide (x.a < x.b) && decide (x.b ≤ 1000000)
  | 1 => decide (w64 (x.b - x.a) ≤ 60)
  | _ => inS x.k (w64 (0 - s 9)) (s 9)
theorem tst_all (s : Nat → Int) (x : Aim3) : aimS s x = (tst s x 0 && tst s x 1 && tst s x 2) := rfl
def areS (s : Nat → Int) (l : List Aim3) : Bool := l.all (aimS s) && decide (l.length ≤ 64)
theorem all_snoc {α : Type} {p : α → Bool} {l : List α} {i : Nat} (hi : i < l.length) (h : (l.take i).all p = true) (hx : p l[i] = true) : (l.take (i + 1)).all p = true := by
  rw [List.take_add_one, List.getElem?_eq_getElem hi, List.all_append, h]; simp [hx]
theorem all_not {α : Type} {p : α → Bool} {l : List α} {i : Nat} (hi : i < l.length) (hx : p l[i] = false) : l.all p = false := by
  rw [List.all_eq_false]; exact ⟨l[i], List.getElem_mem hi, by simp [hx]⟩
theorem Try.c34 (s : Nat → Int) (l : List Aim3) (hl : l.length ≤ 1000000) : ACalls Try.prog 34 [.agg (satA s), aimsA l] (.bool (areS s l)) := by
  refine ACalls.of Try.TT_ok Try.keep34 Try.func34 rfl (by kernel_rfl) Try.mixed (by kernel_rfl) (Nat.le_of_ble_eq_true rfl) ?_
  intro F n' w0 m0 hG hro h1
  refine SP.loop (X := Nat) (fun i => ⟨[(14, .int .i64 i), (13, .int .i64 (l.map aimA).length), (12, aimsA l), (1, aimsA l), (5, .loc 5 0)], [(5, [.fn 57, .fn 58, .clo 59 [.ref (satA s)]])]⟩)
    (fun i => i ≤ l.length ∧ (l.take i).all (aimS s) = true) (fun i => l.length - i) 0 ⟨Nat.zero_le _, rfl⟩ (St.le.of ?_ ?_) (fun i hi => ?_)
  · repeat' (first | exact trivial | refine And.intro rfl ?_)
  · repeat' (first | exact trivial | refine And.intro rfl ?_)
  · obtain ⟨hi, hall⟩ := hi
    refine awp_sound (keep := Try.keep34) hG Try.TT_ok _ _ _ (by kernel_rfl) ?_
    refine And.intro (fun h => ?_) (fun h => ?_)
    · have hi2 : i < l.length := by have := of_decide_eq_true h; simp at this; omega
      have hx : (l.map aimA)[(i : Int).toNat]? = some (aimA l[i]) := by simp [List.getElem?_eq_getElem hi2]
      have bad : ∀ j, j < 3 → tst s l[i] j = false → false = areS s l := fun j hj hf => by
        have : aimS s l[i] = false := by
          rw [tst_all]
          obtain rfl | rfl | rfl : j = 0 ∨ j = 1 ∨ j = 2 := by omega
          · rw [hf]; rfl
          · rw [hf, Bool.and_false]; rfl
          · rw [hf, Bool.and_false]
        rw [areS, all_not hi2 this]; rfl
      refine And.intro (by omega) (Exists.intro (aimA l[i]) (And.intro hx ?_))
      refine SP.loop (X := Nat) (fun j => ⟨[(19, .int .i64 j), (18, .agg [.fn 57, .fn 58, .clo 59 [.ref (satA s)]]), (7, .loc 7 0), (14, .int .i64 i), (13, .int .i64 (l.map aimA).length), (12, aimsA l), (1, aimsA l), (5, .loc 5 0)],
          [(7, aimA l[i]), (5, [.fn 57, .fn 58, .clo 59 [.ref (satA s)]])]⟩)
        (fun j => j ≤ 3 ∧ ∀ k, k < j → tst s l[i] k = true) (fun j => 3 - j) 0 ⟨Nat.zero_le _, fun k hk => absurd hk (Nat.not_lt_zero _)⟩ (St.le.of ?_ ?_) (fun j hj => ?_)
      · repeat' (first | exact trivial | refine And.intro rfl ?_)
      · repeat' (first | exact trivial | refine And.intro rfl ?_)
      · obtain ⟨hj, hts⟩ := hj
        refine awp_sound (keep := Try.keep34) hG Try.TT_ok _ _ _ (by kernel_rfl) ?_
        refine And.intro (fun h => ?_) (fun h => ?_)
        · have hj2 : j < 3 := by have := of_decide_eq_true h; omega
          have step : ∀ {k : Nat}, k < 3 → (∀ q, q < k → tst s l[i] q = true) → tst s l[i] k = true → ∀ q, q < k + 1 → tst s l[i] q = true := fun hk hp hq q hqk => by
            rcases Nat.lt_succ_iff_lt_or_eq.1 hqk with h | rfl
            · exact hp q h
            · exact hq
          obtain rfl | rfl | rfl : j = 0 ∨ j = 1 ∨ j = 2 := by omega
          · refine And.intro (Int.le_of_sub_nonneg (by simp)) (And.intro (by simp) (And.intro (Nat.le_of_ble_eq_true rfl) ?_))
            refine Exists.intro _ (And.intro (Try.c57 l[i]) ?_)
            refine And.intro (fun h2 => ?_) (fun h2 => ?_)
            · exact Ends.mk (Or.inl rfl) (AV.weak.of_eq (congrArg AV.bool (bad 0 (by omega) (notT h2))))
            · refine Exists.intro 1 (And.intro ⟨by omega, step (by omega) hts (notF h2)⟩ (And.intro (by omega) (St.le.of ?_ ?_)))
              · refine And.intro (congrArg some (le_next (by omega))) ?_
                repeat' (first | exact trivial | refine And.intro rfl ?_)
              · repeat' (first | exact trivial | refine And.intro rfl ?_)
          · refine And.intro (Int.le_of_sub_nonneg (by simp)) (And.intro (by simp) (And.intro (Nat.le_of_ble_eq_true rfl) ?_))
            refine Exists.intro _ (And.intro (Try.c58 l[i]) ?_)
            refine And.intro (fun h2 => ?_) (fun h2 => ?_)
            · exact Ends.mk (Or.inl rfl) (AV.weak.of_eq (congrArg AV.bool (bad 1 (by omega) (notT h2))))
            · refine Exists.intro 2 (And.intro ⟨by omega, step (by omega) hts (notF h2)⟩ (And.intro (by omega) (St.le.of ?_ ?_)))
              · refine And.intro (congrArg some (le_next (by omega))) ?_
                repeat' (first | exact trivial | refine And.intro rfl ?_)
              · repeat' (first | exact trivial | refine And.intro rfl ?_)
          · refine And.intro (Int.le_of_sub_nonneg (by simp)) (And.intro (by simp) (And.intro (Nat.le_of_ble_eq_true rfl) ?_))
            refine Exists.intro _ (And.intro (Try.c59 s l[i]) ?_)
            refine And.intro (fun h2 => ?_) (fun h2 => ?_)
            · exact Ends.mk (Or.inl rfl) (AV.weak.of_eq (congrArg AV.bool (bad 2 (by omega) (notT h2))))
            · refine Exists.intro 3 (And.intro ⟨by omega, step (by omega) hts (notF h2)⟩ (And.intro (by omega) (St.le.of ?_ ?_)))
              · refine And.intro (congrArg some (le_next (by omega))) ?_
                repeat' (first | exact trivial | refine And.intro rfl ?_)
              · repeat' (first | exact trivial | refine And.intro rfl ?_)
        · have e : j = 3 := by have := of_decide_eq_false h; omega
          subst e
          have hp : aimS s l[i] = true := by rw [tst_all, hts 0 (by omega), hts 1 (by omega), hts 2 (by omega)]; rfl
          refine Exists.intro (i + 1) (And.intro ⟨hi2, all_snoc hi2 hall hp⟩ (And.intro (by omega) (St.le.of ?_ ?_)))
          · refine And.intro (congrArg some (le_next (by omega))) ?_
            repeat' (first | exact trivial | refine And.intro rfl ?_)
          · repeat' (first | exact trivial | refine And.intro rfl ?_)
    · have e : l.take i = l := List.take_of_length_le (by have := of_decide_eq_false h; simp at this; omega)
      rw [e] at hall
      refine Ends.mk (Or.inl rfl) (AV.weak.of_eq (congrArg AV.bool ?_))
      simp only [areS, hall, Bool.true_and, List.length_map]
      rw [Bool.eq_iff_iff]; simp only [decide_eq_true_eq]; omega
theorem Try.c14 (s : Nat → Int) (l : List Aim3) (hl : l.length ≤ 1000000) : ACalls Try.prog 14 [.agg (satA s), aimsA l] (.bool (areS s l && satS s)) := by
  refine ACalls.of Try.TT_ok Try.keep14 Try.func14 rfl (by kernel_rfl) Try.mixed (by kernel_rfl) (Nat.le_of_ble_eq_true rfl) ?_
  intro F n' w0 m0 hG hro h1
  repeat' (conv => whnf
           first
           | refine And.intro (fun h => Bool.noConfusion (h : false = true)) (fun _ => ?_)
           | refine And.intro (fun _ => ?_) (fun h => Bool.noConfusion (h : true = false))
           | refine Exists.intro _ (And.intro (Try.c34 s l hl) ?_)
           | refine Exists.intro _ (And.intro (Try.c35 s) ?_)
           | refine And.intro (fun h => ?_) (fun h => ?_))
  all_goals refine Ends.mk (Or.inl rfl) (AV.weak.of_eq (congrArg AV.bool ?_))
  all_goals simp only [*, Bool.true_and, Bool.false_and]
theorem Try.c15 (s : Nat → Int) (l : List Aim3) (hl : l.length ≤ 1000000) : ACalls Try.prog 15 [.agg (satA s), aimsA l] (.bool (areS s l && satS s)) := by
  refine ACalls.of Try.TT_ok Try.keep15 Try.func15 rfl (by kernel_rfl) Try.mixed (by kernel_rfl) (Nat.le_of_ble_eq_true rfl) ?_
  intro F n' w0 m0 hG hro h1
  refine Exists.intro _ (And.intro (Try.c36 s) ?_)
  refine And.intro (fun hs => ?_) (fun hs => ?_)
  · refine And.intro (fun _ => ?_) (fun h => Bool.noConfusion (h : true = false))
    refine Ends.mk (Or.inl rfl) (AV.weak.of_eq (congrArg AV.bool ?_))
    rw [notT hs, Bool.and_false]
  · have hs := notF hs
    refine And.intro (fun h64 => ?_) (fun h64 => ?_)
    · refine Ends.mk (Or.inl rfl) (AV.weak.of_eq (congrArg AV.bool ?_))
      have := of_decide_eq_true h64
      have : ¬ l.length ≤ 64 := by simp at this; omega
      simp [areS, this]
    · have h64 : l.length ≤ 64 := by have := of_decide_eq_false h64; simp at this; omega
      refine SP.loop (X := Nat) (fun i => ⟨[(5, .int .i64 i), (1, aimsA l), (2, .loc 2 0)], [(2, satA s)]⟩)
        (fun i => i ≤ l.length ∧ (l.take i).all (aimS s) = true) (fun i => l.length - i) 0 ⟨Nat.zero_le _, rfl⟩ (St.le.of ?_ ?_) (fun i hi => ?_)
      · repeat' (first | exact trivial | refine And.intro rfl ?_)
      · repeat' (first | exact trivial | refine And.intro rfl ?_)
      · obtain ⟨hi, hall⟩ := hi
        refine awp_sound (keep := Try.keep15) hG Try.TT_ok _ _ _ (by kernel_rfl) ?_
        refine And.intro (fun h => ?_) (fun h => ?_)
        · have hi2 : i < l.length := by have := of_decide_eq_true h; simp at this; omega
          have hx : (l.map aimA)[(i : Int).toNat]? = some (aimA l[i]) := by simp [List.getElem?_eq_getElem hi2]
          refine And.intro (by omega) (Exists.intro (aimA l[i]) (And.intro hx ?_))
          refine Exists.intro _ (And.intro (Try.c37 s l[i]) ?_)
          refine And.intro (by kernel_rfl) ?_
          refine And.intro (fun h2 => ?_) (fun h2 => ?_)
          · refine Ends.mk (Or.inl rfl) (AV.weak.of_eq (congrArg AV.bool ?_))
            rw [areS, all_not hi2 (notT h2)]; rfl
          · refine Exists.intro (i + 1) (And.intro ⟨hi2, all_snoc hi2 hall (notF h2)⟩ (And.intro (by omega) (St.le.of ?_ ?_)))
            · refine And.intro (congrArg some (le_next (by omega))) ?_
              repeat' (first | exact trivial | refine And.intro rfl ?_)
            · repeat' (first | exact trivial | refine And.intro rfl ?_)
        · have e : l.take i = l := List.take_of_length_le (by have := of_decide_eq_false h; simp at this; omega)
          rw [e] at hall
          refine Ends.mk (Or.inl rfl) (AV.weak.of_eq (congrArg AV.bool ?_))
          simp [areS, hall, h64, hs]
end Go.Proofs


namespace Go.Proofs
open Go Go.AI
set_option maxRecDepth 10000
set_option linter.unusedSimpArgs false

def slewK (s : Nat → Int) (j k : Int) : Int := w64 (s 19 * max (w64 (j - k)) (w64 (k - j)))
def fit1 (s : Nat → Int) (x y : Aim3) : Bool := decide (y.a ≥ w64 (x.b + slewK s x.k y.k))
/-- Two exposures fit. -/
def fitP (s : Nat → Int) (x y : Aim3) : Bool := if y.a < x.a then fit1 s y x else fit1 s x y
def valS (s : Nat → Int) (l : List Aim3) : Bool := areS s l && satS s
theorem Try.c38 (s : Nat → Int) (x y : Aim3) : ACalls Try.prog 38 [.agg (satA s), .agg (aimA x), .agg (aimA y)] (.bool (fitP s x y)) := by
  refine ACalls.of Try.TT_ok Try.keep38 Try.func38 rfl (by kernel_rfl) Try.mixed (by kernel_rfl) (Nat.le_of_ble_eq_true rfl) ?_
  intro F n' w0 m0 hG hro h1
  repeat' (conv => whnf
           first
           | refine And.intro (fun h => Bool.noConfusion (h : false = true)) (fun _ => ?_)
           | refine And.intro (fun _ => ?_) (fun h => Bool.noConfusion (h : true = false))
           | refine And.intro (fun h => ?_) (fun h => ?_))
  all_goals refine Ends.mk (Or.inl rfl) (AV.weak.of_eq (congrArg AV.bool ?_))
  · rw [fitP, if_pos (of_decide_eq_true (by assumption))]; rfl
  · rw [fitP, if_neg (of_decide_eq_false (by assumption))]; rfl
theorem Try.c18 (s : Nat → Int) (x y : Aim3) (hv : valS s [x, y] = true) : ACalls Try.prog 18 [.agg (satA s), .agg (aimA x), .agg (aimA y)] (.int .i64 (slewK s x.k y.k)) := by
  refine ACalls.of Try.TT_ok Try.keep18 Try.func18 rfl (by kernel_rfl) Try.mixed (by kernel_rfl) (Nat.le_of_ble_eq_true rfl) ?_
  intro F n' w0 m0 hG hro h1
  repeat' (conv => whnf
           first
           | refine And.intro (fun h => Bool.noConfusion (h : false = true)) (fun _ => ?_)
           | refine And.intro (fun _ => ?_) (fun h => Bool.noConfusion (h : true = false))
           | refine Exists.intro _ (And.intro ((Try.c14 s [x, y] (Nat.le_of_ble_eq_true rfl)).sl1) ?_)
           | refine And.intro (fun h => ?_) (fun h => ?_))
  · have := notT (by assumption); simp [valS] at hv; simp [hv] at this
  · exact Ends.mk (Or.inl rfl) (AV.weak.of_eq rfl)
theorem find_some {α : Type} {f : Nat → Option α} {N n : Nat} {v : α} (hn : n < N) (h : ∀ j, j < n → f j = none) (hv : f n = some v) : (List.range N).findSome? f = some v := by
  obtain ⟨d, rfl⟩ : ∃ d, N = n + (d + 1) := ⟨N - n - 1, by omega⟩
  rw [List.range_add, List.findSome?_append, List.findSome?_eq_none_iff.2 (fun x hx => h x (List.mem_range.1 hx)), List.range_succ_eq_map]
  simp [hv]
theorem find_none {α : Type} {f : Nat → Option α} {N : Nat} (h : ∀ j, j < N → f j = none) : (List.range N).findSome? f = none := List.findSome?_eq_none_iff.2 (fun x hx => h x (List.mem_range.1 hx))
def aimAt (l : List Aim3) (i : Nat) : Aim3 := l.getD i ⟨0, 0, 0⟩
theorem aimAt_eq {l : List Aim3} {i : Nat} (h : i < l.length) : aimAt l i = l[i] := by simp [aimAt, List.getD_eq_getElem?_getD, List.getElem?_eq_getElem h]
def slewI (s : Nat → Int) (l : List Aim3) (k i : Nat) : Option (Nat × Nat) := if fitP s (aimAt l i) (aimAt l k) then none else some (i, k)
def slewJ (s : Nat → Int) (l : List Aim3) (k : Nat) : Option (Nat × Nat) := (List.range k).findSome? (slewI s l k)
/-- The first two exposures that do not fit. -/
def slewO (s : Nat → Int) (l : List Aim3) : Option (Nat × Nat) := (List.range l.length).findSome? (slewJ s l)
def slewA : Option (Nat × Nat) → List AV
  | none => [.int .i64 0, .int .i64 0, .bool false, .int .i64 0]
  | some (i, k) => [.int .i64 i, .int .i64 k, .bool true, .int .i64 0]
theorem Try.c16 (s : Nat → Int) (l : List Aim3) (hl : l.length ≤ 1000000) (hv : valS s l = true) : ACalls Try.prog 16 [.agg (satA s), aimsA l] (.tup (slewA (slewO s l))) := by
  refine ACalls.of Try.TT_ok Try.keep16 Try.func16 rfl (by kernel_rfl) Try.mixed (by kernel_rfl) (Nat.le_of_ble_eq_true rfl) ?_
  intro F n' w0 m0 hG hro h1
  refine SP.scopeEnds (awp_sound (keep := Try.keep16) hG Try.TT_ok _ _ _ (by kernel_rfl) ?_)
  refine Exists.intro _ (And.intro (Try.c14 s l hl) ?_)
  refine And.intro (fun hs => ?_) (fun hs => ?_)
  · have := notT hs; simp [valS] at hv; simp [hv] at this
  · refine SP.loop (X := Nat) (fun k => ⟨[(16, .int .i64 k), (15, .int .i64 (l.map aimA).length), (1, aimsA l), (2, .loc 2 0), (4, .int .i64 0), (5, .int .i64 0), (6, .bool false)], [(2, satA s)]⟩)
      (fun k => k ≤ l.length ∧ ∀ j, j < k → slewJ s l j = none) (fun k => l.length - k) 0 ⟨Nat.zero_le _, fun k hk => absurd hk (Nat.not_lt_zero _)⟩ (St.le.of ?_ ?_) (fun k hk => ?_)
    · repeat' (first | exact trivial | refine And.intro rfl ?_)
    · repeat' (first | exact trivial | refine And.intro rfl ?_)
    · obtain ⟨hk, hall⟩ := hk
      refine awp_sound (keep := Try.keep16) hG Try.TT_ok _ _ _ (by kernel_rfl) ?_
      refine And.intro (fun h => ?_) (fun h => ?_)
      · have hk2 : k < l.length := by have := of_decide_eq_true h; simp at this; omega
        have hxk : (l.map aimA)[(k : Int).toNat]? = some (aimA (aimAt l k)) := by simp [aimAt_eq hk2, List.getElem?_eq_getElem hk2]
        refine SP.loop (X := Nat) (fun i => ⟨[(20, .int .i64 i), (19, .int .i64 k), (8, .int .i64 k), (16, .int .i64 k), (15, .int .i64 (l.map aimA).length), (1, aimsA l), (2, .loc 2 0), (4, .int .i64 0), (5, .int .i64 0), (6, .bool false)], [(2, satA s)]⟩)
          (fun i => i ≤ k ∧ ∀ j, j < i → slewI s l k j = none) (fun i => k - i) 0 ⟨Nat.zero_le _, fun k hk => absurd hk (Nat.not_lt_zero _)⟩ (St.le.of ?_ ?_) (fun i hi => ?_)
        · repeat' (first | exact trivial | refine And.intro rfl ?_)
        · repeat' (first | exact trivial | refine And.intro rfl ?_)
        · obtain ⟨hi, hall2⟩ := hi
          refine awp_sound (keep := Try.keep16) hG Try.TT_ok _ _ _ (by kernel_rfl) ?_
          refine And.intro (fun h => ?_) (fun h => ?_)
          · have hi2 : i < k := by have := of_decide_eq_true h; simp at this; omega
            have hxi : (l.map aimA)[(i : Int).toNat]? = some (aimA (aimAt l i)) := by simp [aimAt_eq (Nat.lt_trans hi2 hk2), List.getElem?_eq_getElem (Nat.lt_trans hi2 hk2)]
            refine And.intro (by omega) (Exists.intro _ (And.intro hxi ?_))
            refine And.intro (by omega) (Exists.intro _ (And.intro hxk ?_))
            refine Exists.intro _ (And.intro (Try.c38 s (aimAt l i) (aimAt l k)) ?_)
            refine And.intro (by kernel_rfl) ?_
            refine And.intro (fun h2 => ?_) (fun h2 => ?_)
            · have e : slewO s l = some (i, k) := find_some hk2 hall (find_some hi2 hall2 (by rw [slewI, notT h2]; rfl))
              refine Ends.mk (Or.inl rfl) (AV.weak.of_eq ?_)
              rw [e]; rfl
            · refine Exists.intro (i + 1) (And.intro ⟨hi2, fun j hj => ?_⟩ (And.intro (by omega) (St.le.of ?_ ?_)))
              · rcases Nat.lt_succ_iff_lt_or_eq.1 hj with h | rfl
                · exact hall2 j h
                · rw [slewI, notF h2]; rfl
              · refine And.intro (congrArg some (le_next (by omega))) ?_
                repeat' (first | exact trivial | refine And.intro rfl ?_)
              · repeat' (first | exact trivial | refine And.intro rfl ?_)
          · have e : i = k := by have := of_decide_eq_false h; simp at this; omega
            subst e
            refine Exists.intro (i + 1) (And.intro ⟨hk2, fun j hj => ?_⟩ (And.intro (by omega) (St.le.of ?_ ?_)))
            · rcases Nat.lt_succ_iff_lt_or_eq.1 hj with h | rfl
              · exact hall j h
              · exact find_none hall2
            · refine And.intro (congrArg some (le_next (by omega))) ?_
              repeat' (first | exact trivial | refine And.intro rfl ?_)
            · repeat' (first | exact trivial | refine And.intro rfl ?_)
      · have e : k = l.length := by have := of_decide_eq_false h; simp at this; omega
        refine Ends.mk (Or.inl rfl) (AV.weak.of_eq ?_)
        rw [show slewO s l = none from find_none (e ▸ hall)]; rfl
end Go.Proofs


