/- RingSum: the sum of small numbers is exact, it does not mind the order, and it is never beyond where sums stop. Any numbers. No conditions beyond the row's own. -/
import Derived.Test.YtcnnbofjgmohaaaRgH
import Derived.Test.YtcnnbofjgmohaaaEngR
import Derived.Test.YtcnnbofjgmohaaaRows
namespace Go.Proofs.Ytcnnbofjgmohaaa
open Go Go.Eng Go.Rg Go.Proofs
set_option linter.unusedVariables false
end Go.Proofs.Ytcnnbofjgmohaaa
namespace Go.Proofs.Ytcnnbofjgmohaaa
open Go.ChangeShapes Go.WideShapes Go.ChangeAt Go.RowKit Go.Eng
set_option linter.unusedVariables false

theorem ownB : ownKnob Try.prog.godebug = none := by kernel_rfl
theorem laidB : laidOutB Try.prog = true := by kernel_rfl

set_option maxHeartbeats 800000 in
set_option maxRecDepth 100000 in
theorem ringSumLifted (os : Os) (started : os.Started) (H : Type) (enc : TypeId × Value → H) :
    ReturnsInHanded {} Try.checked os 5 .any (Rows.ringSumSpec.pre6 enc Try.prog Try.f5 Rows.ringSumRow.domain false) (Rows.ringSumSpec.post enc Try.prog Try.f5 false true false false) := by
  refine returnsInHanded_of_change (C := Try.checked) ownB started (by kernel_rfl) Try.func5
    (ChangeSpec.witness6 (enc := enc) (C := Try.checked) false ⟨#[], #[.slice none 0 0], []⟩ 8 (by kernel_rfl) (by kernel_rfl) (by kernel_rfl) (by kernel_rfl)) ?_
  intro W base args ds gs before hval0 hW hcnd _
  have hval : ∀ (j : Nat) t v, Try.f5.params[j]? = some t → args[j]? = some v → Value.okWide Try.prog W .any base t v := hval0
  have hW' := hW
  obtain ⟨p, q, hA0, hV, rfl, hfz, hnd⟩ := hW
  have hA : DataW.TrodAll enc Try.prog W 0 (fun _ => true) true Try.f5.params.toList args.toList ds p := hA0
  rw [Try.params5] at hA hval
  obtain ⟨v0, vs0, d0, ds0, p0, q0, hargs, rfl, rfl, h0, r0⟩ := trodAll_cons hA
  obtain ⟨rfl, rfl, rfl⟩ := trodAll_nil r0
  obtain rfl : args = #[v0] := by cases args; simp_all
  obtain ⟨rfl, rfl⟩ := trodVars_none hV
  have k0 := h0
  have lt0 : ∀ x ∈ p0, x.block < W.heap.size := by obtain ⟨m, hm⟩ := k0; exact DataW.trod_lt m _ _ _ hm
  obtain ⟨xs0, w0⟩ : ∃ xs : List Int, Rep W (· < W.heap.size) noIds v0 (.sl 1 xs) := by
    obtain ⟨fuel, hf⟩ := h0
    exact rep_ints Try.underlying22 Try.underlying3 (by kernel_rfl) (hval 0 22 v0 rfl rfl) hf
  clear hA0 hval0
  -- PRE: what the spec asks ([]), then rfl
  refine (calls_of_holds ringSum_ok Try.call5 (w := W) (vals := #[v0]) (args := [.sl 1 xs0]) rfl (fun j v hj => ?_) rfl).mono fun e W' ⟨he, bel⟩ => ?_
  · rcases j with _ | j
    · simp at hj; subst hj; exact w0
    · simp at hj
  subst he
  exact ⟨_, rfl, _, _, _, [], _, [], hW', trodAll_mk1 (shut_bool Try.underlying4 _), (trodAll_cons_mk (Below.trod laidB (by kernel_rfl) (of_decide_eq_true (by kernel_rfl)) k0 bel lt0) trodAll_mk0), rfl, bel.frame _, fun h => by cases h⟩

theorem ringSum_said : Rows.RingSumSaid :=
  OpenClaim.holds_of_wide 5 Try.f5 rfl rfl rfl rfl rfl rfl rfl ⟨rfl, rfl, rfl, rfl, rfl⟩ rfl rfl rfl rfl rfl (by kernel_rfl) Try.func5 (by kernel_rfl)
    (of_decide_eq_true (by kernel_rfl)) (by unfold Func.isWrapper; first | (rw [if_pos (by decide +kernel)]; kernel_rfl) | (rw [if_neg (by decide +kernel)]; exact ⟨rfl, rfl⟩))
    (fun os started H enc _ => ringSumLifted os started H enc)
#print axioms ringSum_said
end Go.Proofs.Ytcnnbofjgmohaaa


