/- FrameTurned: a message's inside one of whose bytes is turned is none. Any message, place and change. No conditions beyond the row's own. -/
import Derived.Test.YtilbglkpbjamfaaFrG
import Derived.Test.YtilbglkpbjamfaaRows
namespace Go.Proofs.Ytilbglkpbjamfaa
open Go Go.Eng Go.Rw Go.Fr Go.Proofs
set_option linter.unusedVariables false
set_option maxHeartbeats 2000000 in
theorem frameTurned_vc (kd : Int) (kd0 : (0 : Int) ≤ kd) (kd1 : kd ≤ (255 : Int)) (sq : Int) (sq0 : (0 : Int) ≤ sq) (sq1 : sq ≤ (4294967295 : Int)) (at_ : Int) (at_0 : (-9223372036854775808 : Int) ≤ at_) (at_1 : at_ ≤ (9223372036854775807 : Int)) (by_ : Int) (by_0 : (0 : Int) ≤ by_) (by_1 : by_ ≤ (255 : Int)) (bo : List UInt8) (k : AV → List (Option Blk) → List Blk → Prop) (hk : k (AV.bool true) [] []) :
  (
   ((0 : Int) ≤ kd) ∧
   (kd ≤ (255 : Int))) ∧
  (
   ((0 : Int) ≤ sq) ∧
   (sq ≤ (4294967295 : Int))) ∧
  (
   ((512 : Nat) < bo.length) →
   ∀ (n1 : Int),
   (n1 = (0 : Int)) →
   (k (AV.bool true) [] [])) ∧
  ((bo.length ≤ (512 : Nat)) →
  ∀ (ys_2 : List UInt8),
  ∀ (n_3 : Nat),
  (ys_2 = ins kd sq bo) →
  (ys_2.length = n_3) →
  ∀ (n6 : Int),
  (n6 = (↑n_3 : Int)) →
  br (bif bif bif (0 : Int) != (0 : Int) then true else decide (at_ < (0 : Int)) then true else decide (at_ ≥ n6) then true else by_ == (0 : Int))
   ((k (AV.bool true) [] []))
   (((0 : Int) ≤ at_) ∧
    (at_ < (↑n_3 : Int)) ∧
    ((0 : Nat) + at_.toNat < ys_2.length) ∧
    ∀ (n8 : Int),
    (n8 = (↑(ys_2.getD ((0 : Nat) + at_.toNat) (0 : UInt8)).toNat : Int)) →
    ((0 : Int) ≤ n8 ∧ n8 ≤ (255 : Int)) →
    ∀ (n11 : Int),
    (n11 = bits BinOp.xor IntKind.u8 n8 by_) →
    ((0 : Int) ≤ n11 ∧ n11 ≤ (255 : Int)) →
    ((0 : Int) ≤ at_) ∧
    (at_ < (↑n_3 : Int)) ∧
    ((0 : Nat) + at_.toNat < ys_2.length) ∧
    ∀ (z14 : List UInt8),
    (z14 = ys_2.set ((0 : Nat) + at_.toNat) (UInt8.ofNat n11.toNat)) →
    (
     (¬okO (List.take n_3 (List.drop (0 : Nat) z14))) →
     (k (AV.bool (bif true then (8 : Int) == (8 : Int) else false)) [] [])) ∧
    (((9 : Nat) ≤ (List.take n_3 (List.drop (0 : Nat) z14)).length ∧ (List.take n_3 (List.drop (0 : Nat) z14)).length ≤ (521 : Nat) ∧ sumN (List.take ((List.take n_3 (List.drop (0 : Nat) z14)).length - (4 : Nat)) (List.take n_3 (List.drop (0 : Nat) z14))) = getL (List.drop ((List.take n_3 (List.drop (0 : Nat) z14)).length - (4 : Nat)) (List.take n_3 (List.drop (0 : Nat) z14)))) →
    ∀ (kd_17 : Int),
    ∀ (sq_18 : Int),
    ∀ (bo_19 : List UInt8),
    ∀ (n_20 : Nat),
    (kd_17 = oK (List.take n_3 (List.drop (0 : Nat) z14))) →
    (sq_18 = oS (List.take n_3 (List.drop (0 : Nat) z14))) →
    (bo_19 = oB (List.take n_3 (List.drop (0 : Nat) z14))) →
    (bo_19.length = n_20) →
    ((0 : Int) ≤ kd_17 ∧ kd_17 ≤ (255 : Int)) →
    ((0 : Int) ≤ sq_18 ∧ sq_18 ≤ (4294967295 : Int)) →
    (k (AV.bool (bif true then (0 : Int) == (8 : Int) else false)) [] [])))) := by
  refine ⟨by exact ⟨by assumption, by assumption⟩, ?_⟩ -- (0 : Int) ≤ kd ∧ kd ≤ (255 : Int)
  refine ⟨by exact ⟨by assumption, by assumption⟩, ?_⟩ -- (0 : Int) ≤ sq ∧ sq ≤ (4294967295 : Int)
  refine ⟨?_, ?_⟩
  · -- left
    intro h1 -- (512 : Nat) < bo.length
    intro n1
    intro q1 -- n1 = (0 : Int)
    exact by exact hk -- k (AV.bool true) [] []
  intro q1 -- bo.length ≤ (512 : Nat)
  intro ys_2
  intro n_3
  intro h2 -- ys_2 = ins kd sq bo
  intro h3 -- ys_2.length = n_3
  intro n6
  intro q6 -- n6 = (↑n_3 : Int)
  refine br_intro (fun c4 => ?_) (fun c4 => ?_) -- bif bif bif (0 : Int) != (0 : Int) then true else decide (at_ < (0 : Int)) then true else decide (at_ ≥ n6) then true else by_ == (0 : Int)
  · -- yes
    simp at c4 -- (at_ < (0 : Int) ∨ n6 ≤ at_) ∨ by_ = (0 : Int)
    exact by exact hk -- k (AV.bool true) [] []
  · -- no
    simp at c4 -- ((0 : Int) ≤ at_ ∧ at_ < n6) ∧ ¬by_ = (0 : Int)
    refine ⟨by first | omega | (dsimp only; omega), ?_⟩ -- (0 : Int) ≤ at_
    refine ⟨by first | omega | (dsimp only; omega), ?_⟩ -- at_ < (↑n_3 : Int)
    refine ⟨by first | omega | (dsimp only; omega), ?_⟩ -- (0 : Nat) + at_.toNat < ys_2.length
    intro n8
    intro q8 -- n8 = (↑(ys_2.getD ((0 : Nat) + at_.toNat) (0 : UInt8)).toNat : Int)
    intro ⟨l8, u8⟩ -- (0 : Int) ≤ n8 ∧ n8 ≤ (255 : Int)
    intro n11
    intro q11 -- n11 = bits BinOp.xor IntKind.u8 n8 by_
    rw [xor_u8 _ _ (by omega) (by omega) (by omega) (by omega)] at q11
    intro ⟨l11, u11⟩ -- (0 : Int) ≤ n11 ∧ n11 ≤ (255 : Int)
    refine ⟨by first | omega | (dsimp only; omega), ?_⟩ -- (0 : Int) ≤ at_
    refine ⟨by first | omega | (dsimp only; omega), ?_⟩ -- at_ < (↑n_3 : Int)
    refine ⟨by first | omega | (dsimp only; omega), ?_⟩ -- (0 : Nat) + at_.toNat < ys_2.length
    intro z14
    intro qz14 -- z14 = ys_2.set ((0 : Nat) + at_.toNat) (UInt8.ofNat n11.toNat)
    refine ⟨?_, ?_⟩
    · -- left
      intro qz14 -- ¬okO (List.take n_3 (List.drop (0 : Nat) z14))
      exact by exact hk -- k (AV.bool (bif true then (8 : Int) == (8 : Int) else false)) [] []
    intro h5 -- (9 : Nat) ≤ (List.take n_3 (List.drop (0 : Nat) z14)).length ∧ (List.take n_3 (List.drop (0 : Nat) z14)).length ≤ (521 : Nat) ∧ sumN (List.take ((List.take n_3 (List.drop (0 : Nat) z14)).length - (4 : Nat)) (List.take n_3 (List.drop (0 : Nat) z14))) = getL (List.drop ((List.take n_3 (List.drop (0 : Nat) z14)).length - (4 : Nat)) (List.take n_3 (List.drop (0 : Nat) z14)))
    intro kd_17
    intro sq_18
    intro bo_19
    intro n_20
    intro h6 -- kd_17 = oK (List.take n_3 (List.drop (0 : Nat) z14))
    intro h7 -- sq_18 = oS (List.take n_3 (List.drop (0 : Nat) z14))
    intro h8 -- bo_19 = oB (List.take n_3 (List.drop (0 : Nat) z14))
    intro h9 -- bo_19.length = n_20
    intro ⟨a10, b10⟩ -- (0 : Int) ≤ kd_17 ∧ kd_17 ≤ (255 : Int)
    intro ⟨a11, b11⟩ -- (0 : Int) ≤ sq_18 ∧ sq_18 ≤ (4294967295 : Int)
    -- k (AV.bool (bif true then (0 : Int) == (8 : Int) else false)) [] []
    exfalso
    have L : z14.length = n_3 := by rw [qz14, List.length_set]; exact h3
    have e : List.take n_3 (List.drop 0 z14) = z14 := by rw [List.drop_zero, List.take_of_length_le (by omega)]
    have h5' : okO (List.take n_3 (List.drop 0 z14)) := h5
    have y : UInt8.ofNat n11.toNat ≠ (ins kd sq bo).getD at_.toNat 0 := by
      rw [q11, q8, h2, Nat.zero_add]
      exact xor_ne (by omega) (by omega) c4.2
    rw [e, qz14, Nat.zero_add, h2] at h5'
    exact turned (by rw [← h2]; omega) y h5'

theorem frameTurned_ok : Holds Try.prog 9 lawTurned := by
  refine fn_sound (env := mkEnv T2) (tab_ok T2_ok) Try.func9 Try.call9 fun args k h => ?_
  match args, h with
  | [.agg [.int .u8 kd, .int .u32 sq, .sl 0 bo], .int .i64 at_, .int .u8 by_], h => exact ⟨by kernel_rfl, fun _ _ => none, fun _ _ => none, .cast (by kernel_rfl) (frameTurned_vc kd h.1.1 h.1.2 sq h.2.1.1 h.2.1.2 at_ h.2.2.1.1 h.2.2.1.2 by_ h.2.2.2.1.1 h.2.2.2.1.2 bo k h.2.2.2.2)⟩
end Go.Proofs.Ytilbglkpbjamfaa
namespace Go.Proofs.Ytilbglkpbjamfaa
open Go.ChangeShapes Go.WideShapes Go.ChangeAt Go.RowKit Go.Eng
set_option linter.unusedVariables false

theorem ownT : ownKnob Try.prog.godebug = none := by kernel_rfl
theorem laidT : laidOutB Try.prog = true := by kernel_rfl

set_option maxHeartbeats 800000 in
set_option maxRecDepth 100000 in
theorem frameTurnedLifted (os : Os) (started : os.Started) (H : Type) (enc : TypeId × Value → H) :
    ReturnsInHanded {} Try.checked os 9 .any (Rows.frameTurnedSpec.pre6 enc Try.prog Try.f9 Rows.frameTurnedRow.domain false) (Rows.frameTurnedSpec.post enc Try.prog Try.f9 false true false false) := by
  refine returnsInHanded_of_change (C := Try.checked) ownT started (by kernel_rfl) Try.func9
    (ChangeSpec.witness6 (enc := enc) (C := Try.checked) false ⟨#[], #[.agg #[.int .u8 0, .int .u32 0, .slice none 0 0], .int .i64 0, .int .u8 0], []⟩ 8 (by kernel_rfl) (by kernel_rfl) (by kernel_rfl) (by kernel_rfl)) ?_
  intro W base args ds gs before hval0 hW hcnd _
  have hval : ∀ (j : Nat) t v, Try.f9.params[j]? = some t → args[j]? = some v → Value.okWide Try.prog W .any base t v := hval0
  have hW' := hW
  obtain ⟨p, q, hA0, hV, rfl, hfz, hnd⟩ := hW
  have hA : DataW.TrodAll enc Try.prog W 0 (fun _ => true) true Try.f9.params.toList args.toList ds p := hA0
  rw [Try.params9] at hA hval
  obtain ⟨v0, vs0, d0, ds0, p0, q0, hargs, rfl, rfl, h0, r0⟩ := trodAll_cons hA
  obtain ⟨v1, vs1, d1, ds1, p1, q1, rfl, rfl, rfl, h1, r1⟩ := trodAll_cons r0
  obtain ⟨v2, vs2, d2, ds2, p2, q2, rfl, rfl, rfl, h2, r2⟩ := trodAll_cons r1
  obtain ⟨rfl, rfl, rfl⟩ := trodAll_nil r2
  obtain rfl : args = #[v0, v1, v2] := by cases args; simp_all
  obtain ⟨rfl, rfl⟩ := trodVars_none hV
  have k0 := h0
  have lt0 : ∀ x ∈ p0, x.block < W.heap.size := by obtain ⟨m, hm⟩ := k0; exact DataW.trod_lt m _ _ _ hm
  obtain ⟨fuel0, hf0⟩ := h0
  obtain ⟨cs0, rfl, hsz0, hcs0⟩ := open_scal Try.underlying25 (by kernel_rfl) (by kernel_rfl) (hval 0 25 v0 rfl rfl) hf0
  obtain ⟨c0_0, c0_1, c0_2, rfl⟩ : ∃ b0 b1 b2, cs0 = #[b0, b1, b2] := by
    exact arr3 hsz0
  obtain ⟨n0_0, y0_0, hy0_0⟩ := hcs0 0 _ _ rfl rfl
  obtain ⟨a0_0, e0_0, -, w0_0⟩ := DataW.trod_int Try.underlying5 hy0_0
  obtain rfl : c0_0 = .int .u8 a0_0 := by simpa using e0_0
  obtain ⟨n0_1, y0_1, hy0_1⟩ := hcs0 1 _ _ rfl rfl
  obtain ⟨a0_1, e0_1, -, w0_1⟩ := DataW.trod_int Try.underlying22 hy0_1
  obtain rfl : c0_1 = .int .u32 a0_1 := by simpa using e0_1
  obtain ⟨n0_2, y0_2, hy0_2⟩ := hcs0 2 _ _ rfl rfl
  obtain ⟨u0_2, xs0_2, e0_2, o0_2, w0_2, -⟩ := rep_slice (c := 0) (by decide) Try.underlying23 (by kernel_rfl) (cells_u8 Try.underlying5) hy0_2
  obtain rfl : c0_2 = u0_2 := by simpa using e0_2
  obtain ⟨a1, rfl, rfl, rfl, w1⟩ := open_int Try.underlying3 (hval 1 3 v1 rfl rfl) h1
  obtain ⟨a2, rfl, rfl, rfl, w2⟩ := open_int Try.underlying5 (hval 2 5 v2 rfl rfl) h2
  clear hA0 hval0
  have hk0_0 : kwf .u8 a0_0 := by simpa [Lit.wf, kwf] using w0_0
  have hk0_1 : kwf .u32 a0_1 := by simpa [Lit.wf, kwf] using w0_1
  have hk1 : kwf .i64 a1 := by simpa [Lit.wf, kwf] using w1
  have hk2 : kwf .u8 a2 := by simpa [Lit.wf, kwf] using w2
  refine (calls_of_holds frameTurned_ok Try.call9 (w := W) (vals := #[.agg #[.int .u8 a0_0, .int .u32 a0_1, c0_2], .int .i64 a1, .int .u8 a2]) (args := [.agg [.int .u8 a0_0, .int .u32 a0_1, .sl 0 xs0_2], .int .i64 a1, .int .u8 a2]) rfl (fun j v hj => ?_) ⟨hk0_0, hk0_1, hk1, hk2, rfl⟩).mono fun e W' ⟨he, bel⟩ => ?_
  · rcases j with _ | _ | _ | j
    · simp at hj; subst hj; refine .agg rfl (fun j v h => ?_) (fun j v h => ?_) <;> rcases j with _ | _ | _ | j <;> simp at h <;> subst h <;> first | rfl | exact .bool | exact .int (by assumption) | assumption
    · simp at hj; subst hj; exact .int hk1
    · simp at hj; subst hj; exact .int hk2
    · simp at hj
  subst he
  exact ⟨_, rfl, _, _, _, [], _, [], hW', trodAll_mk1 (shut_bool Try.underlying4 _), (trodAll_cons_mk (Below.trod laidT (by kernel_rfl) (of_decide_eq_true (by kernel_rfl)) k0 bel lt0) (trodAll_cons_mk (shut_int Try.underlying3 w1) (trodAll_cons_mk (shut_int Try.underlying5 w2) trodAll_mk0))), rfl, bel.frame _, fun h => by cases h⟩

theorem frameTurned_said : Rows.FrameTurnedSaid :=
  OpenClaim.holds_of_wide 9 Try.f9 rfl rfl rfl rfl rfl rfl rfl ⟨rfl, rfl, rfl, rfl, rfl⟩ rfl rfl rfl rfl rfl (by kernel_rfl) Try.func9 (by kernel_rfl)
    (of_decide_eq_true (by kernel_rfl)) (by unfold Func.isWrapper; first | (rw [if_pos (by decide +kernel)]; kernel_rfl) | (rw [if_neg (by decide +kernel)]; exact ⟨rfl, rfl⟩))
    (fun os started H enc _ => frameTurnedLifted os started H enc)
#print axioms frameTurned_said
end Go.Proofs.Ytilbglkpbjamfaa


