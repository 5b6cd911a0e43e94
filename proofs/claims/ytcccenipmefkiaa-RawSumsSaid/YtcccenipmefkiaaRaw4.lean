/- For every list of bytes (of at most 100,000; longer ones are let go) RawSums answers true, and the bytes stay. No conditions. -/
import Derived.Test.YtcccenipmefkiaaRaw3
import Derived.Test.YtcccenipmefkiaaEngR
import Derived.Test.YtcccenipmefkiaaRows
namespace Go.Proofs.Ytcccenipmefkiaa
open Go Go.Eng Go.Proofs
set_option linter.unusedVariables false

theorem rawSums_vc (xs : List UInt8) (k : AV → List (Option Blk) → List Blk → Prop) (hk : k (AV.bool true) [] []) :
  br (decide ((↑xs.length : Int) > (100000 : Int)))
   ((k (AV.bool true) [] []))
   ((xs.length * base1.P.bytesOf (5 : Nat) ≤ (140737488355328 : Nat)) ∧
    ∀ (z1 : List UInt8),
    (z1 = xs) →
    ((List.take xs.length (List.drop (0 : Nat) z1)).length ≤ (1000000 : Nat)) ∧
    (xs.length ≤ (1000000 : Nat)) ∧
    br ((↑(crcN (List.take xs.length (List.drop (0 : Nat) z1)) ^^^ (4294967295 : Nat)) : Int) == (↑(crcR xs ^^^ (4294967295 : Nat)) : Int))
     ((k (AV.bool (bif true then eqB (List.take xs.length (List.drop (0 : Nat) z1)) xs else false)) [] []))
     ((false = false) ∧
      (k (AV.bool false) [] []))) := by
  refine brd (fun c1 => ?_) (fun c1 => ?_) -- decide ((↑xs.length : Int) > (100000 : Int))
  · -- yes
    exact by assumption -- k (AV.bool true) [] []
  · -- no
    have h2 : xs.length * base1.P.bytesOf (5 : Nat) ≤ (140737488355328 : Nat) := by
      have e : base1.P.bytesOf 5 = 1 := by kernel_rfl
      rw [e]; omega
    refine ⟨h2, ?_⟩
    intro z1
    intro qz1 -- z1 = xs
    have h3 : (List.take xs.length (List.drop (0 : Nat) z1)).length ≤ (1000000 : Nat) := by
      rw [qz1]; simp; omega
    refine ⟨h3, ?_⟩
    refine ⟨by omega, ?_⟩ -- xs.length ≤ (1000000 : Nat)
    refine br_intro (fun c4 => ?_) (fun c4 => ?_) -- (↑(crcN (List.take xs.length (List.drop (0 : Nat) z1)) ^^^ (4294967295 : Nat)) : Int) == (↑(crcR xs ^^^ (4294967295 : Nat)) : Int)
    · -- yes
      -- k (AV.bool (bif true then eqB (List.take xs.length (List.drop (0 : Nat) z1)) xs else false)) [] []
      have e : List.take xs.length (List.drop (0 : Nat) z1) = xs := by rw [qz1]; simp
      rw [e]
      have e2 : eqB xs xs = true := by simp [eqB]
      rw [e2]; exact hk
    · -- no
      refine ⟨by with_reducible rfl, ?_⟩ -- false = false
      -- k (AV.bool false) [] []
      exfalso
      have e : List.take xs.length (List.drop (0 : Nat) z1) = xs := by rw [qz1]; simp
      rw [e, crc_same xs] at c4
      simp at c4


theorem rawSums_fn (xs : List UInt8) (k : AV → List (Option Blk) → List Blk → Prop) (hk : k (.bool true) [] []) :
    Ok (fnVC { base1 with loops := fun _ _ => none, cuts := fun _ _ => none } true Try.f3 [.sl 0 xs] k) := .cast (by kernel_rfl) (rawSums_vc xs k hk)
def bytesS : Eng.Spec := { ro := true, own := [], run := fun args _ k => match args with
  | [.sl 0 _] => k (.bool true) [] []
  | _ => False }
theorem base1_ok : ∀ f s, base1.spec f = some s → Holds base1.P f s := by
  intro f s h
  simp only [base1] at h
  split at h
  · cases h; exact sum_ok
  · cases h; exact refSum_ok
  · cases h; exact same_ok
  · cases h
theorem rawSums_ok : Holds base1.P 3 bytesS := by
  refine fn_sound (env := base1) base1_ok Try.func3 Try.call3 fun args k h => ?_
  match args, h with
  | [.sl 0 xs], h => exact ⟨by kernel_rfl, _, fun _ _ => none, rawSums_fn xs k h⟩
end Go.Proofs.Ytcccenipmefkiaa
namespace Go.Proofs.Ytcccenipmefkiaa
open Go.ChangeShapes Go.WideShapes Go.ChangeAt Go.RowKit Go.Eng
set_option linter.unusedVariables false

theorem ownR : ownKnob Try.prog.godebug = none := by kernel_rfl
theorem laidOutR : laidOutB Try.prog = true := by kernel_rfl

set_option maxRecDepth 100000 in
theorem rawSumsLifted (os : Os) (started : os.Started) (H : Type) (enc : TypeId × Value → H) :
    ReturnsInHanded {} Try.checked os 3 .any (Rows.rawSumsSpec.pre6 enc Try.prog Try.f3 Rows.rawSumsRow.domain false) (Rows.rawSumsSpec.post enc Try.prog Try.f3 false true false false) := by
  refine returnsInHanded_of_change (C := Try.checked) ownR started (by kernel_rfl) Try.func3
    (ChangeSpec.witness6 (enc := enc) (C := Try.checked) false ⟨#[], #[.slice none 0 0], []⟩ 8 (by kernel_rfl) (by kernel_rfl) (by kernel_rfl) (by kernel_rfl)) ?_
  intro W base args ds gs before hval0 hW hcnd _
  have hval : ∀ (j : Nat) t v, Try.f3.params[j]? = some t → args[j]? = some v → Value.okWide Try.prog W .any base t v := hval0
  have hW' := hW
  obtain ⟨p, q, hA0, hV, rfl, hfz, hnd⟩ := hW
  have hA : DataW.TrodAll enc Try.prog W 0 (fun _ => true) true Try.f3.params.toList args.toList ds p := hA0
  rw [Try.params3] at hA hval
  obtain ⟨v0, vs0, d0, ds0, p0, q0, hargs, rfl, rfl, h0, r0⟩ := trodAll_cons hA
  obtain ⟨rfl, rfl, rfl⟩ := trodAll_nil r0
  obtain rfl : args = #[v0] := by cases args; simp_all
  obtain ⟨rfl, rfl⟩ := trodVars_none hV
  have k0 := h0
  have lt0 : ∀ x ∈ p0, x.block < W.heap.size := by obtain ⟨m, hm⟩ := k0; exact DataW.trod_lt m _ _ _ hm
  obtain ⟨xs0, w0⟩ : ∃ xs : List UInt8, Rep W (· < W.heap.size) noIds v0 (.sl 0 xs) := by
    obtain ⟨fuel, hf⟩ := h0
    exact rep_bytes Try.underlying22 Try.underlying5 (by kernel_rfl) (hval 0 22 v0 rfl rfl) hf
  clear hA0 hval0
  refine (calls_of_holds rawSums_ok Try.call3 (vals := #[v0]) (args := [.sl 0 xs0]) rfl (fun j v hj => ?_) rfl).mono fun e W' ⟨he, bel⟩ => ?_
  · rcases j with _ | j
    · simp at hj; subst hj; exact w0
    · simp at hj
  subst he
  exact ⟨_, rfl, _, _, _, [], _, [], hW', trodAll_mk1 (shut_bool Try.underlying4 _), (trodAll_cons_mk (Below.trod laidOutR (by kernel_rfl) (of_decide_eq_true (by kernel_rfl)) k0 bel lt0) trodAll_mk0), rfl, bel.frame _, fun h => by cases h⟩

theorem rawSums_said : Rows.RawSumsSaid :=
  OpenClaim.holds_of_wide 3 Try.f3 rfl rfl rfl rfl rfl rfl rfl ⟨rfl, rfl, rfl, rfl, rfl⟩ rfl rfl rfl rfl rfl (by kernel_rfl) Try.func3 (by kernel_rfl)
    (of_decide_eq_true (by kernel_rfl)) (by unfold Func.isWrapper; first | (rw [if_pos (by decide +kernel)]; kernel_rfl) | (rw [if_neg (by decide +kernel)]; exact ⟨rfl, rfl⟩))
    (fun os started H enc _ => rawSumsLifted os started H enc)
#print axioms rawSums_said
end Go.Proofs.Ytcccenipmefkiaa
