/- RawNames answers true. No conditions. -/
import Derived.Test.YtcccenipmefkiaaRawC
import Derived.Test.YtcccenipmefkiaaRows
namespace Go.Proofs.Ytcccenipmefkiaa
open Go Go.Eng Go.Proofs
set_option linter.unusedVariables false

theorem names_vc (k : AV → List (Option Blk) → List Blk → Prop) (hk : k (AV.bool true) [] []) :
  (
   ((0 : Int) ≤ (258 : Int)) ∧
   ((258 : Int) ≤ (18446744073709551615 : Int))) ∧
  (
   ((0 : Int) ≤ (256 : Int)) ∧
   ((256 : Int) ≤ (18446744073709551615 : Int))) ∧
  (
   ((0 : Int) ≤ (0 : Int)) ∧
   ((0 : Int) ≤ (18446744073709551615 : Int))) ∧
  (
   ((0 : Int) ≤ (18446744073709551615 : Int)) ∧
   ((18446744073709551615 : Int) ≤ (18446744073709551615 : Int))) ∧
  ((List.take (3 : Nat) (List.drop (0 : Nat) [UInt8.ofNat (Int.toNat (172 : Int)), UInt8.ofNat (Int.toNat (2 : Int)), UInt8.ofNat (Int.toNat (9 : Int))])).length ≤ (1000000 : Nat)) ∧
  ((List.take (2 : Nat) (List.drop (0 : Nat) [UInt8.ofNat (Int.toNat (128 : Int)), UInt8.ofNat (Int.toNat (0 : Int))])).length ≤ (1000000 : Nat)) ∧
  (
   ((0 : Int) ≤ (0 : Int)) ∧
   ((0 : Int) ≤ (18446744073709551615 : Int))) ∧
  (
   ((0 : Int) ≤ (300 : Int)) ∧
   ((300 : Int) ≤ (18446744073709551615 : Int))) ∧
  ((0 : Nat) ≤ (1000000 : Nat)) ∧
  (k (AV.bool (bif true then (↑(crcN [] ^^^ (4294967295 : Nat)) : Int) == (0 : Int) else false)) [] []) := by
  refine ⟨?_, ?_⟩
  · -- left
    refine ⟨by omega, ?_⟩ -- (0 : Int) ≤ (258 : Int)
    exact by omega -- (258 : Int) ≤ (18446744073709551615 : Int)
  refine ⟨?_, ?_⟩
  · -- left
    refine ⟨by omega, ?_⟩ -- (0 : Int) ≤ (256 : Int)
    exact by omega -- (256 : Int) ≤ (18446744073709551615 : Int)
  refine ⟨?_, ?_⟩
  · -- left
    refine ⟨by omega, ?_⟩ -- (0 : Int) ≤ (0 : Int)
    exact by omega -- (0 : Int) ≤ (18446744073709551615 : Int)
  refine ⟨?_, ?_⟩
  · -- left
    refine ⟨by omega, ?_⟩ -- (0 : Int) ≤ (18446744073709551615 : Int)
    exact by omega -- (18446744073709551615 : Int) ≤ (18446744073709551615 : Int)
  refine ⟨by decide, ?_⟩ -- (List.take (3 : Nat) (List.drop (0 : Nat) [UInt8.ofNat (Int.toNat (172 : Int)), UInt8.ofNat (Int.toNat (2 : Int)), UInt8.ofNat (Int.toNat (9 : Int))])).length ≤ (1000000 : Nat)
  refine ⟨by decide, ?_⟩ -- (List.take (2 : Nat) (List.drop (0 : Nat) [UInt8.ofNat (Int.toNat (128 : Int)), UInt8.ofNat (Int.toNat (0 : Int))])).length ≤ (1000000 : Nat)
  refine ⟨?_, ?_⟩
  · -- left
    refine ⟨by omega, ?_⟩ -- (0 : Int) ≤ (0 : Int)
    exact by omega -- (0 : Int) ≤ (18446744073709551615 : Int)
  refine ⟨?_, ?_⟩
  · -- left
    refine ⟨by omega, ?_⟩ -- (0 : Int) ≤ (300 : Int)
    exact by omega -- (300 : Int) ≤ (18446744073709551615 : Int)
  refine ⟨by omega, ?_⟩ -- (0 : Nat) ≤ (1000000 : Nat)
  exact by assumption -- k (AV.bool (bif true then (↑(crcN [] ^^^ (4294967295 : Nat)) : Int) == (0 : Int) else false)) [] []


theorem names_fn (k : AV → List (Option Blk) → List Blk → Prop) (hk : k (.bool true) [] []) :
    Ok (fnVC { base4 with loops := fun _ _ => none, cuts := fun _ _ => none } true Try.f7 [] k) := .cast (by kernel_rfl) (names_vc k hk)
theorem rawNames_ok : Holds base4.P 7 aliveS := by
  refine fn_sound (env := base4) base4_ok Try.func7 Try.call7 fun args k h => ?_
  match args, h with
  | [], h => exact ⟨by kernel_rfl, _, fun _ _ => none, names_fn k h⟩
end Go.Proofs.Ytcccenipmefkiaa
namespace Go.Proofs.Ytcccenipmefkiaa
open Go.ChangeShapes Go.WideShapes Go.ChangeAt Go.RowKit Go.Eng
set_option linter.unusedVariables false

theorem ownN : ownKnob Try.prog.godebug = none := by kernel_rfl

set_option maxRecDepth 100000 in
theorem rawNamesLifted (os : Os) (started : os.Started) (H : Type) (enc : TypeId × Value → H) :
    ReturnsInHanded {} Try.checked os 7 .any (Rows.rawNamesSpec.pre6 enc Try.prog Try.f7 Rows.rawNamesRow.domain false) (Rows.rawNamesSpec.post enc Try.prog Try.f7 false true false false) := by
  refine returnsInHanded_of_change (C := Try.checked) ownN started (by kernel_rfl) Try.func7
    (ChangeSpec.witness6 (enc := enc) (C := Try.checked) false ⟨#[], #[], []⟩ 8 (by kernel_rfl) (by kernel_rfl) (by kernel_rfl) (by kernel_rfl)) ?_
  intro W base args ds gs before hval0 hW hcnd _
  have hW' := hW
  obtain ⟨p, q, hA0, hV, rfl, hfz, hnd⟩ := hW
  have hA : DataW.TrodAll enc Try.prog W 0 (fun _ => true) true Try.f7.params.toList args.toList ds p := hA0
  rw [Try.params7] at hA
  obtain ⟨hargs, rfl, rfl⟩ := trodAll_nil hA
  obtain rfl : args = #[] := by cases args; simp_all
  obtain ⟨rfl, rfl⟩ := trodVars_none hV
  clear hA0 hval0
  refine (calls_of_holds rawNames_ok Try.call7 (w := W) (vals := #[]) (args := []) rfl (fun j v hj => by simp at hj) rfl).mono fun e W' ⟨he, bel⟩ => ?_
  subst he
  exact ⟨_, rfl, _, _, _, [], _, [], hW', trodAll_mk1 (shut_bool Try.underlying4 _), trodAll_mk0, rfl, bel.frame _, fun h => by cases h⟩

theorem rawNames_said : Rows.RawNamesSaid :=
  OpenClaim.holds_of_wide 7 Try.f7 rfl rfl rfl rfl rfl rfl rfl ⟨rfl, rfl, rfl, rfl, rfl⟩ rfl rfl rfl rfl rfl (by kernel_rfl) Try.func7 (by kernel_rfl)
    (of_decide_eq_true (by kernel_rfl)) (by unfold Func.isWrapper; first | (rw [if_pos (by decide +kernel)]; kernel_rfl) | (rw [if_neg (by decide +kernel)]; exact ⟨rfl, rfl⟩))
    (fun os started H enc _ => rawNamesLifted os started H enc)
#print axioms rawNames_said
end Go.Proofs.Ytcccenipmefkiaa
