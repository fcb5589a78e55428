/- BatteryWindows answers true, whatever the input; no condition. -/
import Derived.Test.YtoccmkmnkoldmaaBatC
import Derived.Test.YtoccmkmnkoldmaaRows
set_option linter.unusedSectionVars false
set_option linter.unusedVariables false
set_option linter.unusedSimpArgs false
namespace Go.Proofs
open Go Go.AI Go.Proofs.Ytoccmkmnkoldmaa
set_option maxRecDepth 100000
theorem Try.own : ownKnob Try.prog.godebug = none := by kernel_rfl
theorem Try.laidOut : laidOutB Try.prog = true := by kernel_rfl
theorem Try.reads22 : (Try.prog.readableRec 22 && Nat.blt 22 Try.prog.types.size) = true := by kernel_rfl
theorem Try.reads54 : (Try.prog.readableRec 54 && Nat.blt 54 Try.prog.types.size) = true := by kernel_rfl
theorem Try.reads55 : (Try.prog.readableRec 55 && Nat.blt 55 Try.prog.types.size) = true := by kernel_rfl
theorem Try.reads3 : (Try.prog.readableRec 3 && Nat.blt 3 Try.prog.types.size) = true := by kernel_rfl
def seven0 : Value := .agg #[.int .i64 0, .int .i64 0, .int .i64 0, .int .i64 0, .int .i64 0, .int .i64 0, .int .i64 0]
def sevenSh : List Sh := [.int .i64, .int .i64, .int .i64, .int .i64, .int .i64, .int .i64, .int .i64]
def lawSh : List (Bool × List Sh) := [(true, sevenSh), (true, [.int .i64, .int .i64, .int .i64, .int .i64]), (false, [.sl [.int .i64, .int .i64, .int .i64]]), (false, [.int .i64]), (false, [.int .i64]), (false, [.int .i64]), (false, [.int .i64])]
theorem Try.shs : paramSh Try.prog 8 [22, 54, 55, 3, 3, 3, 3] = some lawSh := by kernel_rfl
theorem Try.lifted (law : ∀ avs, PArgs 8 lawSh avs → ACalls Try.prog 10 avs (.bool true)) (os : Os) (started : os.Started) (H : Type) (enc : TypeId × Value → H) :
    ReturnsInHanded {} Try.checked os 10 .any (Rows.batteryWindowsSpec.pre6 enc Try.prog Try.f10 Rows.batteryWindowsRow.domain false) (Rows.batteryWindowsSpec.post enc Try.prog Try.f10 false true false false) :=
  law_lifted (C := Try.checked) (tb := 4) Try.own started (by kernel_rfl) Try.func10
    (ChangeSpec.witness6 (enc := enc) (C := Try.checked) false ⟨#[], #[seven0, .agg #[.int .i64 0, .int .i64 0, .int .i64 0, .int .i64 0], .slice none 0 0, .int .i64 0, .int .i64 0, .int .i64 0, .int .i64 0], []⟩ 8 (by kernel_rfl) (by kernel_rfl) (by kernel_rfl) (by kernel_rfl))
    rfl (by kernel_rfl) (by kernel_rfl) (fun ds h => by
      match ds, h with
      | [d, da, db, d0, d1, d2, d3], _ => rfl) Try.shs Try.laidOut (fun t ht => by
      have e : Try.f10.params.toList = [22, 54, 55, 3, 3, 3, 3] := by kernel_rfl
      rw [e] at ht
      simp only [List.mem_cons, List.not_mem_nil, or_false] at ht
      have h22 := Try.reads22
      have h3 := Try.reads3
      have h54 := Try.reads54
      have h55 := Try.reads55
      simp only [Bool.and_eq_true] at h22 h3 h54 h55
      have g : t = 22 ∨ t = 54 ∨ t = 55 ∨ t = 3 := by rcases ht with h | h | h | h | h | h | h <;> first | exact .inl h | exact .inr (.inl h) | exact .inr (.inr (.inl h)) | exact .inr (.inr (.inr h))
      rcases g with rfl | rfl | rfl | rfl
      · exact ⟨h22.1, Nat.le_of_ble_eq_true h22.2⟩
      · exact ⟨h54.1, Nat.le_of_ble_eq_true h54.2⟩
      · exact ⟨h55.1, Nat.le_of_ble_eq_true h55.2⟩
      · exact ⟨h3.1, Nat.le_of_ble_eq_true h3.2⟩) law
theorem Try.row (law : ∀ avs, PArgs 8 lawSh avs → ACalls Try.prog 10 avs (.bool true)) : Rows.BatteryWindowsSaid :=
  OpenClaim.holds_of_wide (p := Try.pinned) (s := Rows.batteryWindowsSpec) (c := Rows.batteryWindowsRow) 10 Try.f10 rfl rfl rfl rfl rfl rfl rfl ⟨rfl, rfl, rfl, rfl, rfl⟩ rfl rfl rfl rfl rfl (by kernel_rfl) Try.func10 (by kernel_rfl)
    (of_decide_eq_true (by kernel_rfl)) (by unfold Func.isWrapper; first | (rw [if_pos (by decide +kernel)]; kernel_rfl) | (rw [if_neg (by decide +kernel)]; exact ⟨rfl, rfl⟩))
    (fun os started H enc _ => Try.lifted law os started H enc)
theorem pargs_agg {n : Nat} {L : List Sh} {r : List (Bool × List Sh)} {avs : List AV} (h : PArgs n ((true, L) :: r) avs) : ∃ cs q, avs = .agg cs :: q ∧ Fa (ShOK n) L cs ∧ PArgs n r q := by
  match avs, h with
  | _ :: q, h =>
    obtain ⟨⟨cs, rfl, h1⟩, h2⟩ := h
    exact ⟨cs, q, rfl, h1, h2⟩
  | [], h => exact h.elim
theorem pargs_int {n : Nat} {r : List (Bool × List Sh)} {avs : List AV} (h : PArgs (n + 1) ((false, [.int .i64]) :: r) avs) : ∃ z q, avs = .int .i64 z :: q ∧ inI z ∧ PArgs (n + 1) r q := by
  match avs, h with
  | _ :: q, h =>
    obtain ⟨⟨s, e, h1⟩, h2⟩ := h
    cases e
    obtain ⟨z, rfl, hz⟩ := int_inv h1
    exact ⟨z, q, rfl, hz, h2⟩
  | [], h => exact h.elim
theorem pargs_sl {n : Nat} {e : List Sh} {r : List (Bool × List Sh)} {avs : List AV} (h : PArgs n ((false, [.sl e]) :: r) avs) : ∃ z q, avs = z :: q ∧ ShOK n (.sl e) z ∧ PArgs n r q := by
  match avs, h with
  | _ :: q, h =>
    obtain ⟨⟨s, e, h1⟩, h2⟩ := h
    cases e
    exact ⟨_, q, rfl, h1, h2⟩
  | [], h => exact h.elim
theorem pargs_nil {n : Nat} {avs : List AV} (h : PArgs n [] avs) : avs = [] := by
  match avs, h with
  | [], _ => rfl
  | _ :: _, h => exact h.elim
end Go.Proofs
namespace Go.Proofs.Ytoccmkmnkoldmaa
open Go Go.AI
/-- BatteryWindows answers true, whatever the input. -/
theorem batteryWindows : Rows.BatteryWindowsSaid := Try.row fun avs h => by
  obtain ⟨cs, q, rfl, h1, h⟩ := pargs_agg h
  obtain ⟨ds, q, rfl, h2, h⟩ := pargs_agg h
  obtain ⟨z, q, rfl, h3, h⟩ := pargs_sl h
  obtain ⟨z0, q, rfl, i0, h⟩ := pargs_int h
  obtain ⟨z1, q, rfl, i1, h⟩ := pargs_int h
  obtain ⟨z2, q, rfl, i2, h⟩ := pargs_int h
  obtain ⟨z3, q, rfl, i3, h⟩ := pargs_int h
  obtain rfl := pargs_nil h
  obtain ⟨x, hx, rfl⟩ := seven_of h1
  obtain ⟨y, hy, rfl⟩ := four_of h2
  obtain ⟨w, hw, rfl⟩ := rows_of h3
  exact Go.Proofs.Try.x10 ⟨x, y, w, z0, z1, hx, hy, hw, i0, i1⟩ z2 z3 i2 i3
end Go.Proofs.Ytoccmkmnkoldmaa


