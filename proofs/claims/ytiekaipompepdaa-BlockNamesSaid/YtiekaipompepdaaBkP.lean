/- BlockNames: the limits and errors have their numbers; the chapter's examples are so. No conditions: the statement has no arguments. -/
import Derived.Test.YtiekaipompepdaaBkO
import Derived.Test.YtiekaipompepdaaRows
namespace Go.Proofs.Ytiekaipompepdaa
open Go Go.Eng Go.Bk Go.Proofs
set_option linter.unusedVariables false
theorem nine36 {p : Prop} (h : p) : (((((((p ∧ p) ∧ p) ∧ p) ∧ (((p ∧ p) ∧ p) ∧ p)) ∧ (((p ∧ p) ∧ p) ∧ p)) ∧ (((((p ∧ p) ∧ p) ∧ p) ∧ (((p ∧ p) ∧ p) ∧ p)) ∧ (((p ∧ p) ∧ p) ∧ p))) ∧ (((((p ∧ p) ∧ p) ∧ p) ∧ (((p ∧ p) ∧ p) ∧ p)) ∧ (((p ∧ p) ∧ p) ∧ p))) := by
  have A : ((p ∧ p) ∧ p) ∧ p := ⟨⟨⟨h, h⟩, h⟩, h⟩
  have X : ((((p ∧ p) ∧ p) ∧ p) ∧ (((p ∧ p) ∧ p) ∧ p)) ∧ (((p ∧ p) ∧ p) ∧ p) := ⟨⟨A, A⟩, A⟩
  exact ⟨⟨X, X⟩, X⟩
theorem blockNames_ok : Holds Try.prog 6 trueS := by
  refine fn_sound (env := lenv2) lenv2_ok Try.func6 Try.call6 fun args k h => ?_
  match args, h with
  | [], h => exact ⟨by kernel_rfl, fun _ _ => none, fun _ _ => none, .cast (by kernel_rfl) (nine36 (show k (.bool true) [] [] from h))⟩
end Go.Proofs.Ytiekaipompepdaa

namespace Go.Proofs.Ytiekaipompepdaa
open Go.ChangeShapes Go.WideShapes Go.ChangeAt Go.RowKit Go.Eng
set_option linter.unusedVariables false

theorem ownN : ownKnob Try.prog.godebug = none := by kernel_rfl

set_option maxRecDepth 100000 in
theorem blockNamesLifted (os : Os) (started : os.Started) (H : Type) (enc : TypeId × Value → H) :
    ReturnsInHanded {} Try.checked os 6 .any (Rows.blockNamesSpec.pre6 enc Try.prog Try.f6 Rows.blockNamesRow.domain false) (Rows.blockNamesSpec.post enc Try.prog Try.f6 false true false false) := by
  refine returnsInHanded_of_change (C := Try.checked) ownN started (by kernel_rfl) Try.func6
    (ChangeSpec.witness6 (enc := enc) (C := Try.checked) false ⟨#[], #[], []⟩ 8 (by kernel_rfl) (by kernel_rfl) (by kernel_rfl) (by kernel_rfl)) ?_
  intro W base args ds gs before hval0 hW hcnd _
  have hW' := hW
  obtain ⟨p, q, hA0, hV, rfl, hfz, hnd⟩ := hW
  have hA : DataW.TrodAll enc Try.prog W 0 (fun _ => true) true Try.f6.params.toList args.toList ds p := hA0
  rw [Try.params6] at hA
  obtain ⟨hargs, rfl, rfl⟩ := trodAll_nil hA
  obtain rfl : args = #[] := by cases args; simp_all
  obtain ⟨rfl, rfl⟩ := trodVars_none hV
  clear hA0 hval0
  refine (calls_of_holds blockNames_ok Try.call6 (w := W) (vals := #[]) (args := []) rfl (fun j v hj => by simp at hj) rfl).mono fun e W' ⟨he, bel⟩ => ?_
  subst he
  exact ⟨_, rfl, _, _, _, [], _, [], hW', trodAll_mk1 (shut_bool Try.underlying4 _), trodAll_mk0, rfl, bel.frame _, fun h => by cases h⟩

theorem blockNames_said : Rows.BlockNamesSaid :=
  OpenClaim.holds_of_wide 6 Try.f6 rfl rfl rfl rfl rfl rfl rfl ⟨rfl, rfl, rfl, rfl, rfl⟩ rfl rfl rfl rfl rfl (by kernel_rfl) Try.func6 (by kernel_rfl)
    (of_decide_eq_true (by kernel_rfl)) (by unfold Func.isWrapper; first | (rw [if_pos (by decide +kernel)]; kernel_rfl) | (rw [if_neg (by decide +kernel)]; exact ⟨rfl, rfl⟩))
    (fun os started H enc _ => blockNamesLifted os started H enc)
#print axioms blockNames_said
end Go.Proofs.Ytiekaipompepdaa


