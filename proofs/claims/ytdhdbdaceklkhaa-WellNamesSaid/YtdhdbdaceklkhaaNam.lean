/- WellNames answers true. No conditions: the statement has no arguments. -/
import Derived.Test.YtdhdbdaceklkhaaLit
import Derived.Test.YtdhdbdaceklkhaaRows
namespace Go.Proofs.Ytdhdbdaceklkhaa
open Go Go.Eng Go.Proofs
set_option linter.unusedVariables false
theorem wellNames_ok : Holds Try.prog 4 trueS := by
  refine fn_sound (env := lenv) lenv_ok Try.func4 Try.call4 fun args k h => ?_
  match args, h with
  | [], h => exact ⟨by kernel_rfl, fun _ _ => none, fun _ _ => none, .cast (by kernel_rfl) h⟩
end Go.Proofs.Ytdhdbdaceklkhaa

namespace Go.Proofs.Ytdhdbdaceklkhaa
open Go.ChangeShapes Go.WideShapes Go.ChangeAt Go.RowKit Go.Eng
set_option linter.unusedVariables false

theorem ownN : ownKnob Try.prog.godebug = none := by kernel_rfl

set_option maxRecDepth 100000 in
theorem wellNamesLifted (os : Os) (started : os.Started) (H : Type) (enc : TypeId × Value → H) :
    ReturnsInHanded {} Try.checked os 4 .any (Rows.wellNamesSpec.pre6 enc Try.prog Try.f4 Rows.wellNamesRow.domain false) (Rows.wellNamesSpec.post enc Try.prog Try.f4 false true false false) := by
  refine returnsInHanded_of_change (C := Try.checked) ownN started (by kernel_rfl) Try.func4
    (ChangeSpec.witness6 (enc := enc) (C := Try.checked) false ⟨#[], #[], []⟩ 8 (by kernel_rfl) (by kernel_rfl) (by kernel_rfl) (by kernel_rfl)) ?_
  intro W base args ds gs before hval0 hW hcnd _
  have hW' := hW
  obtain ⟨p, q, hA0, hV, rfl, hfz, hnd⟩ := hW
  have hA : DataW.TrodAll enc Try.prog W 0 (fun _ => true) true Try.f4.params.toList args.toList ds p := hA0
  rw [Try.params4] at hA
  obtain ⟨hargs, rfl, rfl⟩ := trodAll_nil hA
  obtain rfl : args = #[] := by cases args; simp_all
  obtain ⟨rfl, rfl⟩ := trodVars_none hV
  clear hA0 hval0
  refine (calls_of_holds wellNames_ok Try.call4 (w := W) (vals := #[]) (args := []) rfl (fun j v hj => by simp at hj) rfl).mono fun e W' ⟨he, bel⟩ => ?_
  subst he
  exact ⟨_, rfl, _, _, _, [], _, [], hW', trodAll_mk1 (shut_bool Try.underlying4 _), trodAll_mk0, rfl, bel.frame _, fun h => by cases h⟩

theorem wellNames_said : Rows.WellNamesSaid :=
  OpenClaim.holds_of_wide 4 Try.f4 rfl rfl rfl rfl rfl rfl rfl ⟨rfl, rfl, rfl, rfl, rfl⟩ rfl rfl rfl rfl rfl (by kernel_rfl) Try.func4 (by kernel_rfl)
    (of_decide_eq_true (by kernel_rfl)) (by unfold Func.isWrapper; first | (rw [if_pos (by decide +kernel)]; kernel_rfl) | (rw [if_neg (by decide +kernel)]; exact ⟨rfl, rfl⟩))
    (fun os started H enc _ => wellNamesLifted os started H enc)
#print axioms wellNames_said
end Go.Proofs.Ytdhdbdaceklkhaa
