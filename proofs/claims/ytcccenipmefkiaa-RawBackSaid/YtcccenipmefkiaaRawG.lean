/- For every number, width and list of bytes RawBack answers true, and the bytes stay. No conditions. -/
import Derived.Test.YtcccenipmefkiaaRawF
import Derived.Test.YtcccenipmefkiaaRows
namespace Go.Proofs.Ytcccenipmefkiaa
open Go Go.Eng Go.Proofs
set_option linter.unusedVariables false
theorem back_fn (n w : Int) (rest : List UInt8) (h0 : 0 ≤ n) (h1 : n ≤ 18446744073709551615) (k : AV → List (Option Blk) → List Blk → Prop) (hk : k (.bool true) [] []) :
    Ok (fnVC { base4 with loops := fun _ _ => none, cuts := fun _ _ => none } true Try.f8 [.int .u64 n, .int .i64 w, .sl 0 rest] k) := .cast (by kernel_rfl) (back_vc n w rest h0 h1 k hk)
def uibS : Eng.Spec := { ro := true, own := [], run := fun args _ k => match args with
  | [.int .u64 n, .int .i64 _, .sl 0 _] => inK .u64 n ∧ k (.bool true) [] []
  | _ => False }
theorem rawBack_ok : Holds base4.P 8 uibS := by
  refine fn_sound (env := base4) base4_ok Try.func8 Try.call8 fun args k h => ?_
  match args, h with
  | [.int .u64 n, .int .i64 w, .sl 0 rest], h => exact ⟨by kernel_rfl, _, fun _ _ => none, back_fn n w rest h.1.1 h.1.2 k h.2⟩
end Go.Proofs.Ytcccenipmefkiaa
namespace Go.Proofs.Ytcccenipmefkiaa
open Go.ChangeShapes Go.WideShapes Go.ChangeAt Go.RowKit Go.Eng
set_option linter.unusedVariables false

theorem ownB : ownKnob Try.prog.godebug = none := by kernel_rfl
theorem laidOutB' : laidOutB Try.prog = true := by kernel_rfl

set_option maxRecDepth 100000 in
theorem rawBackLifted (os : Os) (started : os.Started) (H : Type) (enc : TypeId × Value → H) :
    ReturnsInHanded {} Try.checked os 8 .any (Rows.rawBackSpec.pre6 enc Try.prog Try.f8 Rows.rawBackRow.domain false) (Rows.rawBackSpec.post enc Try.prog Try.f8 false true false false) := by
  refine returnsInHanded_of_change (C := Try.checked) ownB started (by kernel_rfl) Try.func8
    (ChangeSpec.witness6 (enc := enc) (C := Try.checked) false ⟨#[], #[.int .u64 0, .int .i64 0, .slice none 0 0], []⟩ 8 (by kernel_rfl) (by kernel_rfl) (by kernel_rfl) (by kernel_rfl)) ?_
  intro W base args ds gs before hval0 hW hcnd _
  have hval : ∀ (j : Nat) t v, Try.f8.params[j]? = some t → args[j]? = some v → Value.okWide Try.prog W .any base t v := hval0
  have hW' := hW
  obtain ⟨p, q, hA0, hV, rfl, hfz, hnd⟩ := hW
  have hA : DataW.TrodAll enc Try.prog W 0 (fun _ => true) true Try.f8.params.toList args.toList ds p := hA0
  rw [Try.params8] at hA hval
  obtain ⟨v0, vs0, d0, ds0, p0, q0, hargs, rfl, rfl, h0, r0⟩ := trodAll_cons hA
  obtain ⟨v1, vs1, d1, ds1, p1, q1, rfl, rfl, rfl, h1, r1⟩ := trodAll_cons r0
  obtain ⟨v2, vs2, d2, ds2, p2, q2, rfl, rfl, rfl, h2, r2⟩ := trodAll_cons r1
  obtain ⟨rfl, rfl, rfl⟩ := trodAll_nil r2
  obtain rfl : args = #[v0, v1, v2] := by cases args; simp_all
  obtain ⟨rfl, rfl⟩ := trodVars_none hV
  obtain ⟨a0, rfl, rfl, rfl, w0⟩ := open_int Try.underlying27 (hval 0 27 v0 rfl rfl) h0
  obtain ⟨a1, rfl, rfl, rfl, w1⟩ := open_int Try.underlying3 (hval 1 3 v1 rfl rfl) h1
  have k2 := h2
  have lt2 : ∀ x ∈ p2, x.block < W.heap.size := by obtain ⟨m, hm⟩ := k2; exact DataW.trod_lt m _ _ _ hm
  obtain ⟨xs2, w2⟩ : ∃ xs : List UInt8, Rep W (· < W.heap.size) noIds v2 (.sl 0 xs) := by
    obtain ⟨fuel, hf⟩ := h2
    exact rep_bytes Try.underlying22 Try.underlying5 (by kernel_rfl) (hval 2 22 v2 rfl rfl) hf
  clear hA0 hval0
  have hk0 : kwf .u64 a0 := by simpa [Lit.wf, kwf] using w0
  have hk1 : kwf .i64 a1 := by simpa [Lit.wf, kwf] using w1
  refine (calls_of_holds rawBack_ok Try.call8 (vals := #[.int .u64 a0, .int .i64 a1, v2]) (args := [.int .u64 a0, .int .i64 a1, .sl 0 xs2]) rfl (fun j v hj => ?_) ⟨hk0, rfl⟩).mono fun e W' ⟨he, bel⟩ => ?_
  · rcases j with _ | _ | _ | j
    · simp at hj; subst hj; exact .int hk0
    · simp at hj; subst hj; exact .int hk1
    · simp at hj; subst hj; exact w2
    · simp at hj
  subst he
  exact ⟨_, rfl, _, _, _, [], _, [], hW', trodAll_mk1 (shut_bool Try.underlying4 _), (trodAll_cons_mk (shut_int Try.underlying27 w0) (trodAll_cons_mk (shut_int Try.underlying3 w1) (trodAll_cons_mk (Below.trod laidOutB' (by kernel_rfl) (of_decide_eq_true (by kernel_rfl)) k2 bel lt2) trodAll_mk0))), rfl, bel.frame _, fun h => by cases h⟩

theorem rawBack_said : Rows.RawBackSaid :=
  OpenClaim.holds_of_wide 8 Try.f8 rfl rfl rfl rfl rfl rfl rfl ⟨rfl, rfl, rfl, rfl, rfl⟩ rfl rfl rfl rfl rfl (by kernel_rfl) Try.func8 (by kernel_rfl)
    (of_decide_eq_true (by kernel_rfl)) (by unfold Func.isWrapper; first | (rw [if_pos (by decide +kernel)]; kernel_rfl) | (rw [if_neg (by decide +kernel)]; exact ⟨rfl, rfl⟩))
    (fun os started H enc _ => rawBackLifted os started H enc)
#print axioms rawBack_said
end Go.Proofs.Ytcccenipmefkiaa
