/- LinkNames: the limits and errors have their numbers; the chapter's examples are so. No conditions: the statement has no arguments. -/
import Derived.Test.YtpkfadgennejnaaLkF
import Derived.Test.YtpkfadgennejnaaEngR
import Derived.Test.YtpkfadgennejnaaRows
namespace Go.Proofs.Ytpkfadgennejnaa
open Go Go.Eng Go.Lk Go.Proofs
set_option linter.unusedVariables false
def lown2 : FuncId → Option Eng.Spec := fun f => match f with
  | 10 => some trueS
  | _ => none
theorem lown2_ok : ∀ f s, lown2 f = some s → Holds Try.prog f s := fun f s h => by
  unfold lown2 at h
  split at h
  · cases h; exact alive_ok
  · cases h
noncomputable def lenv2 : Env := lenvOf lown2
theorem lenv2_ok : ∀ f s, lenv2.spec f = some s → Holds Try.prog f s := litEnv_ok lown2_ok linl_ok 12
theorem linkNames_ok : Holds Try.prog 9 trueS := by
  refine fn_sound (env := lenv2) lenv2_ok Try.func9 Try.call9 fun args k h => ?_
  match args, h with
  | [], h => exact ⟨by kernel_rfl, fun _ _ => none, fun _ _ => none, .cast (by kernel_rfl) (show (k (.bool true) [] [] ∧ (k (.bool true) [] [] ∧ k (.bool true) [] [])) ∧ ((k (.bool true) [] [] ∧ k (.bool true) [] []) ∧ k (.bool true) [] []) from ⟨⟨h, h, h⟩, ⟨h, h⟩, h⟩)⟩
end Go.Proofs.Ytpkfadgennejnaa

namespace Go.Proofs.Ytpkfadgennejnaa
open Go.ChangeShapes Go.WideShapes Go.ChangeAt Go.RowKit Go.Eng
set_option linter.unusedVariables false

theorem ownN : ownKnob Try.prog.godebug = none := by kernel_rfl

set_option maxRecDepth 100000 in
theorem linkNamesLifted (os : Os) (started : os.Started) (H : Type) (enc : TypeId × Value → H) :
    ReturnsInHanded {} Try.checked os 9 .any (Rows.linkNamesSpec.pre6 enc Try.prog Try.f9 Rows.linkNamesRow.domain false) (Rows.linkNamesSpec.post enc Try.prog Try.f9 false true false false) := by
  refine returnsInHanded_of_change (C := Try.checked) ownN started (by kernel_rfl) Try.func9
    (ChangeSpec.witness6 (enc := enc) (C := Try.checked) false ⟨#[], #[], []⟩ 8 (by kernel_rfl) (by kernel_rfl) (by kernel_rfl) (by kernel_rfl)) ?_
  intro W base args ds gs before hval0 hW hcnd _
  have hW' := hW
  obtain ⟨p, q, hA0, hV, rfl, hfz, hnd⟩ := hW
  have hA : DataW.TrodAll enc Try.prog W 0 (fun _ => true) true Try.f9.params.toList args.toList ds p := hA0
  rw [Try.params9] at hA
  obtain ⟨hargs, rfl, rfl⟩ := trodAll_nil hA
  obtain rfl : args = #[] := by cases args; simp_all
  obtain ⟨rfl, rfl⟩ := trodVars_none hV
  clear hA0 hval0
  refine (calls_of_holds linkNames_ok Try.call9 (w := W) (vals := #[]) (args := []) rfl (fun j v hj => by simp at hj) rfl).mono fun e W' ⟨he, bel⟩ => ?_
  subst he
  exact ⟨_, rfl, _, _, _, [], _, [], hW', trodAll_mk1 (shut_bool Try.underlying4 _), trodAll_mk0, rfl, bel.frame _, fun h => by cases h⟩

theorem linkNames_said : Rows.LinkNamesSaid :=
  OpenClaim.holds_of_wide 9 Try.f9 rfl rfl rfl rfl rfl rfl rfl ⟨rfl, rfl, rfl, rfl, rfl⟩ rfl rfl rfl rfl rfl (by kernel_rfl) Try.func9 (by kernel_rfl)
    (of_decide_eq_true (by kernel_rfl)) (by unfold Func.isWrapper; first | (rw [if_pos (by decide +kernel)]; kernel_rfl) | (rw [if_neg (by decide +kernel)]; exact ⟨rfl, rfl⟩))
    (fun os started H enc _ => linkNamesLifted os started H enc)
#print axioms linkNames_said
end Go.Proofs.Ytpkfadgennejnaa


