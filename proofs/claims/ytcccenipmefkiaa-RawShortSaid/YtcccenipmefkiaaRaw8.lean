/- For every number RawShort answers true. No conditions. -/
import Derived.Test.YtcccenipmefkiaaRaw7
import Derived.Test.YtcccenipmefkiaaEngR
import Derived.Test.YtcccenipmefkiaaRows
namespace Go.Proofs.Ytcccenipmefkiaa
open Go Go.Eng Go.Proofs
set_option linter.unusedVariables false

theorem small_len : ∀ (i f n : Nat), 1 ≤ i → i ≤ f → n / 128 ^ i = 0 → (1 < i → 0 < n / 128 ^ (i - 1)) → (smallF f n).length = i ∧ ((smallF f n).getD (i - 1) 0).toNat < 128
  | 0, _, _, h, _, _, _ => absurd h (by decide)
  | i + 1, 0, _, _, h, _, _ => absurd h (by omega)
  | 0 + 1, f + 1, n, _, _, h, _ => by
    have h : n < 128 := by simpa using h
    unfold smallF
    rw [if_pos h]
    simp
    omega
  | i + 1 + 1, f + 1, n, _, hf, h, h0 => by
    have h1 : 0 < n / 128 ^ (i + 1) := h0 (by omega)
    have hn : ¬ n < 128 := by
      intro hlt
      have : n / 128 ^ (i + 1) = 0 := Nat.div_eq_of_lt (Nat.lt_of_lt_of_le hlt (by
        have : 128 ^ 1 ≤ 128 ^ (i + 1) := Nat.pow_le_pow_right (by decide) (by omega)
        simpa using this))
      omega
    have e : ∀ j, n / 128 / 128 ^ j = n / 128 ^ (j + 1) := fun j => by rw [Nat.div_div_eq_div_mul, Nat.pow_succ, Nat.mul_comm]
    obtain ⟨g1, g2⟩ := small_len (i + 1) f (n / 128) (by omega) (by omega) (by rw [e]; exact h) (fun hi => by
      have : i + 1 - 1 = i := by omega
      rw [this, e]; exact h1)
    unfold smallF
    rw [if_neg hn]
    refine ⟨by simp [g1], ?_⟩
    simpa using g2

theorem short_vc (n : Int) (h0 : (0 : Int) ≤ n) (h1 : n ≤ (18446744073709551615 : Int)) (k : AV → List (Option Blk) → List Blk → Prop) (hk : k (AV.bool true) [] []) :
  ((128 : Int) ≠ (0 : Int)) ∧
  ∀ (n1 : Int),
  (n1 = IntKind.u64.wrap (n.tdiv (128 : Int))) →
  ((0 : Int) ≤ n1 ∧ n1 ≤ (18446744073709551615 : Int)) →
  (
   ∃ (v : Nat × Nat),
   (n = n) ∧
   (true = true) ∧
   ((1 : Int) = (↑v.fst : Int)) ∧
   (n1 = (↑v.snd : Int)) ∧
   ((1 : Nat) ≤ v.fst) ∧
   (v.fst ≤ (10 : Nat)) ∧
   (v.snd = n.toNat / (128 : Nat) ^ v.fst) ∧
   (((1 : Nat) < v.fst) →
   ((0 : Nat) < n.toNat / (128 : Nat) ^ (v.fst - (1 : Nat))))) ∧
  ∀ (v2 : Nat × Nat),
  ((1 : Nat) ≤ v2.fst ∧ v2.fst ≤ (10 : Nat) ∧ v2.snd = n.toNat / (128 : Nat) ^ v2.fst ∧ ((1 : Nat) < v2.fst → (0 : Nat) < n.toNat / (128 : Nat) ^ (v2.fst - (1 : Nat)))) →
  br (decide ((↑v2.snd : Int) > (0 : Int)))
   (∀ (n3 : Int),
    (n3 = IntKind.i64.wrap ((↑v2.fst : Int) + (1 : Int))) →
    ((-9223372036854775808 : Int) ≤ n3 ∧ n3 ≤ (9223372036854775807 : Int)) →
    ((128 : Int) ≠ (0 : Int)) ∧
    ∀ (n4 : Int),
    (n4 = IntKind.u64.wrap ((↑v2.snd : Int).tdiv (128 : Int))) →
    ((0 : Int) ≤ n4 ∧ n4 ≤ (18446744073709551615 : Int)) →
    ∃ (v' : Nat × Nat),
    (n = n) ∧
    (true = true) ∧
    (n3 = (↑v'.fst : Int)) ∧
    (n4 = (↑v'.snd : Int)) ∧
    (
     ((1 : Nat) ≤ v'.fst) ∧
     (v'.fst ≤ (10 : Nat)) ∧
     (v'.snd = n.toNat / (128 : Nat) ^ v'.fst) ∧
     (((1 : Nat) < v'.fst) →
     ((0 : Nat) < n.toNat / (128 : Nat) ^ (v'.fst - (1 : Nat))))) ∧
    (v'.snd < v2.snd))
   ((
     ((0 : Int) ≤ n) ∧
     (n ≤ (18446744073709551615 : Int))) ∧
    ∀ (n5 : Int),
    (n5 = IntKind.i64.wrap ((↑v2.fst : Int) - (1 : Int))) →
    (
     ((bif true then (↑(smallL n.toNat).length : Int) == (↑v2.fst : Int) else false) = true) →
     ((0 : Int) ≤ n5) ∧
     (n5 < (↑(smallL n.toNat).length : Int))) ∧
    (
     ((bif true then (↑(smallL n.toNat).length : Int) == (↑v2.fst : Int) else false) = true) →
     ((0 : Nat) + n5.toNat < (smallL n.toNat).length)) ∧
    ∀ (n6 : Int),
    (n6 = (↑((smallL n.toNat).getD ((0 : Nat) + n5.toNat) (0 : UInt8)).toNat : Int)) →
    (k (AV.bool (bif bif true then (↑(smallL n.toNat).length : Int) == (↑v2.fst : Int) else false then decide (n6 < (128 : Int)) else false)) [] [])) := by
  refine ⟨by omega, ?_⟩ -- (128 : Int) ≠ (0 : Int)
  intro n1
  intro q1 -- n1 = IntKind.u64.wrap (n.tdiv (128 : Int))
  rw [Int.tdiv_eq_ediv_of_nonneg (by omega)] at q1
  rw [IntKind.wrap_u64] at q1
  intro ⟨l1, u1⟩ -- (0 : Int) ≤ n1 ∧ n1 ≤ (18446744073709551615 : Int)
  refine ⟨?_, ?_⟩
  · -- left
    refine ⟨((1 : Nat), n1.toNat), ?_⟩
    refine ⟨by first | with_reducible rfl | rfl, ?_⟩ -- n = n
    refine ⟨by first | with_reducible rfl | rfl, ?_⟩ -- true = true
    refine ⟨by show (1 : Int) = (↑(1 : Nat) : Int); omega, ?_⟩ -- (1 : Int) = (↑(1 : Nat) : Int)
    refine ⟨by show n1 = (↑n1.toNat : Int); omega, ?_⟩ -- n1 = (↑n1.toNat : Int)
    refine ⟨by show (1 : Nat) ≤ (1 : Nat); omega, ?_⟩ -- (1 : Nat) ≤ (1 : Nat)
    refine ⟨by show (1 : Nat) ≤ (10 : Nat); omega, ?_⟩ -- (1 : Nat) ≤ (10 : Nat)
    refine ⟨by show n1.toNat = n.toNat / (128 : Nat) ^ (1 : Nat); omega, ?_⟩ -- n1.toNat = n.toNat / (128 : Nat) ^ (1 : Nat)
    intro h1 -- (1 : Nat) < (1 : Nat)
    exact by show (0 : Nat) < n.toNat / (128 : Nat) ^ ((1 : Nat) - (1 : Nat)); omega -- (0 : Nat) < n.toNat / (128 : Nat) ^ ((1 : Nat) - (1 : Nat))
  intro v2
  intro h2 -- (1 : Nat) ≤ v2.fst ∧ v2.fst ≤ (10 : Nat) ∧ v2.snd = n.toNat / (128 : Nat) ^ v2.fst ∧ ((1 : Nat) < v2.fst → (0 : Nat) < n.toNat / (128 : Nat) ^ (v2.fst - (1 : Nat)))
  refine brd (fun c3 => ?_) (fun c3 => ?_) -- decide ((↑v2.snd : Int) > (0 : Int))
  · -- yes
    intro n3
    intro q3 -- n3 = IntKind.i64.wrap ((↑v2.fst : Int) + (1 : Int))
    rw [IntKind.wrap_i64] at q3
    intro ⟨l3, u3⟩ -- (-9223372036854775808 : Int) ≤ n3 ∧ n3 ≤ (9223372036854775807 : Int)
    refine ⟨by omega, ?_⟩ -- (128 : Int) ≠ (0 : Int)
    intro n4
    intro q4 -- n4 = IntKind.u64.wrap ((↑v2.snd : Int).tdiv (128 : Int))
    rw [Int.tdiv_eq_ediv_of_nonneg (by omega)] at q4
    rw [IntKind.wrap_u64] at q4
    intro ⟨l4, u4⟩ -- (0 : Int) ≤ n4 ∧ n4 ≤ (18446744073709551615 : Int)
    refine ⟨(v2.fst + (1 : Nat), n4.toNat), ?_⟩
    refine ⟨by first | with_reducible rfl | rfl, ?_⟩ -- n = n
    refine ⟨by first | with_reducible rfl | rfl, ?_⟩ -- true = true
    refine ⟨by show n3 = (↑(v2.fst + (1 : Nat)) : Int); omega, ?_⟩ -- n3 = (↑(v2.fst + (1 : Nat)) : Int)
    refine ⟨by show n4 = (↑n4.toNat : Int); omega, ?_⟩ -- n4 = (↑n4.toNat : Int)
    refine ⟨?_, ?_⟩
    · -- left
      refine ⟨by show (1 : Nat) ≤ v2.fst + (1 : Nat); omega, ?_⟩ -- (1 : Nat) ≤ v2.fst + (1 : Nat)
      have h4 : v2.fst + (1 : Nat) ≤ (10 : Nat) := by
        rcases Nat.lt_or_ge v2.fst 10 with h | h
        · omega
        · have e : v2.fst = 10 := by omega
          have h9 := h2.2.2.1
          rw [e] at h9
          have : n.toNat / 128 ^ 10 = 0 := Nat.div_eq_of_lt (by
            show n.toNat < 1180591620717411303424
            omega)
          omega
      refine ⟨h4, ?_⟩
      have h5 : n4.toNat = n.toNat / (128 : Nat) ^ (v2.fst + (1 : Nat)) := by
        have hb : v2.snd ≤ n.toNat := by rw [h2.2.2.1]; exact Nat.div_le_self _ _
        have e4 : n4.toNat = v2.snd / 128 := by omega
        rw [e4, h2.2.2.1, Nat.div_div_eq_div_mul, Nat.pow_succ]
      refine ⟨h5, ?_⟩
      intro h6 -- (1 : Nat) < v2.fst + (1 : Nat)
      -- (0 : Nat) < n.toNat / (128 : Nat) ^ (v2.fst + (1 : Nat) - (1 : Nat))
      show 0 < n.toNat / 128 ^ v2.fst
      rw [← h2.2.2.1]
      omega
    exact by show n4.toNat < v2.snd; omega -- n4.toNat < v2.snd
  · -- no
    refine ⟨?_, ?_⟩
    · -- left
      refine ⟨by assumption, ?_⟩ -- (0 : Int) ≤ n
      exact by assumption -- n ≤ (18446744073709551615 : Int)
    intro n5
    intro q5 -- n5 = IntKind.i64.wrap ((↑v2.fst : Int) - (1 : Int))
    rw [IntKind.wrap_i64] at q5
    refine ⟨?_, ?_⟩
    · -- left
      intro q5 -- (bif true then (↑(smallL n.toNat).length : Int) == (↑v2.fst : Int) else false) = true
      refine ⟨by omega, ?_⟩ -- (0 : Int) ≤ n5
      -- n5 < (↑(smallL n.toNat).length : Int)
      have hl := (small_len v2.fst 10 n.toNat h2.1 h2.2.1 (by omega) h2.2.2.2).1
      have : (smallL n.toNat).length = v2.fst := hl
      omega
    refine ⟨?_, ?_⟩
    · -- left
      intro q5 -- (bif true then (↑(smallL n.toNat).length : Int) == (↑v2.fst : Int) else false) = true
      -- (0 : Nat) + n5.toNat < (smallL n.toNat).length
      have hl := (small_len v2.fst 10 n.toNat h2.1 h2.2.1 (by omega) h2.2.2.2).1
      have : (smallL n.toNat).length = v2.fst := hl
      omega
    intro n6
    intro q6 -- n6 = (↑((smallL n.toNat).getD ((0 : Nat) + n5.toNat) (0 : UInt8)).toNat : Int)
    -- k (AV.bool (bif bif true then (↑(smallL n.toNat).length : Int) == (↑v2.fst : Int) else false then decide (n6 < (128 : Int)) else false)) [] []
    obtain ⟨hl, hd⟩ := small_len v2.fst 10 n.toNat h2.1 h2.2.1 (by omega) h2.2.2.2
    have hl : (smallL n.toNat).length = v2.fst := hl
    have e5 : n5.toNat = v2.fst - 1 := by omega
    have e6 : n6 < 128 := by
      rw [q6, Nat.zero_add, e5]
      have : ((smallL n.toNat).getD (v2.fst - 1) 0).toNat < 128 := hd
      omega
    have e : (bif bif true then (↑(smallL n.toNat).length : Int) == (↑v2.fst : Int) else false then decide (n6 < (128 : Int)) else false) = true := by
      rw [hl]; simp [e6]
    rw [e]; exact hk


theorem short_fn (n : Int) (h0 : 0 ≤ n) (h1 : n ≤ 18446744073709551615) (k : AV → List (Option Blk) → List Blk → Prop) (hk : k (.bool true) [] []) :
    Ok (fnVC { base3 with loops := shortLoops n, cuts := fun _ _ => none } true Try.f4 [.int .u64 n] k) := .cast (by kernel_rfl) (short_vc n h0 h1 k hk)
def u64S : Eng.Spec := { ro := true, own := [], run := fun args _ k => match args with
  | [.int .u64 n] => inK .u64 n ∧ k (.bool true) [] []
  | _ => False }
theorem rawShort_ok : Holds base3.P 4 u64S := by
  refine fn_sound (env := base3) base3_ok Try.func4 Try.call4 fun args k h => ?_
  match args, h with
  | [.int .u64 n], h => exact ⟨by kernel_rfl, shortLoops n, fun _ _ => none, short_fn n h.1.1 h.1.2 k h.2⟩
end Go.Proofs.Ytcccenipmefkiaa
namespace Go.Proofs.Ytcccenipmefkiaa
open Go.ChangeShapes Go.WideShapes Go.ChangeAt Go.RowKit Go.Eng
set_option linter.unusedVariables false

theorem ownS : ownKnob Try.prog.godebug = none := by kernel_rfl

set_option maxRecDepth 100000 in
theorem rawShortLifted (os : Os) (started : os.Started) (H : Type) (enc : TypeId × Value → H) :
    ReturnsInHanded {} Try.checked os 4 .any (Rows.rawShortSpec.pre6 enc Try.prog Try.f4 Rows.rawShortRow.domain false) (Rows.rawShortSpec.post enc Try.prog Try.f4 false true false false) := by
  refine returnsInHanded_of_change (C := Try.checked) ownS started (by kernel_rfl) Try.func4
    (ChangeSpec.witness6 (enc := enc) (C := Try.checked) false ⟨#[], #[.int .u64 0], []⟩ 8 (by kernel_rfl) (by kernel_rfl) (by kernel_rfl) (by kernel_rfl)) ?_
  intro W base args ds gs before hval0 hW hcnd _
  have hval : ∀ (j : Nat) t v, Try.f4.params[j]? = some t → args[j]? = some v → Value.okWide Try.prog W .any base t v := hval0
  have hW' := hW
  obtain ⟨p, q, hA0, hV, rfl, hfz, hnd⟩ := hW
  have hA : DataW.TrodAll enc Try.prog W 0 (fun _ => true) true Try.f4.params.toList args.toList ds p := hA0
  rw [Try.params4] at hA hval
  obtain ⟨v0, vs0, d0, ds0, p0, q0, hargs, rfl, rfl, h0, r0⟩ := trodAll_cons hA
  obtain ⟨rfl, rfl, rfl⟩ := trodAll_nil r0
  obtain rfl : args = #[v0] := by cases args; simp_all
  obtain ⟨rfl, rfl⟩ := trodVars_none hV
  obtain ⟨a0, rfl, rfl, rfl, w0⟩ := open_int Try.underlying27 (hval 0 27 v0 rfl rfl) h0
  clear hA0 hval0
  have hk : kwf .u64 a0 := by simpa [Lit.wf, kwf] using w0
  refine (calls_of_holds rawShort_ok Try.call4 (vals := #[.int .u64 a0]) (args := [.int .u64 a0]) rfl (fun j v hj => ?_) ⟨hk, rfl⟩).mono fun e W' ⟨he, bel⟩ => ?_
  · rcases j with _ | j
    · simp at hj; subst hj; exact .int hk
    · simp at hj
  subst he
  exact ⟨_, rfl, _, _, _, [], _, [], hW', trodAll_mk1 (shut_bool Try.underlying4 _), (trodAll_cons_mk (shut_int Try.underlying27 w0) trodAll_mk0), rfl, bel.frame _, fun h => by cases h⟩

theorem rawShort_said : Rows.RawShortSaid :=
  OpenClaim.holds_of_wide 4 Try.f4 rfl rfl rfl rfl rfl rfl rfl ⟨rfl, rfl, rfl, rfl, rfl⟩ rfl rfl rfl rfl rfl (by kernel_rfl) Try.func4 (by kernel_rfl)
    (of_decide_eq_true (by kernel_rfl)) (by unfold Func.isWrapper; first | (rw [if_pos (by decide +kernel)]; kernel_rfl) | (rw [if_neg (by decide +kernel)]; exact ⟨rfl, rfl⟩))
    (fun os started H enc _ => rawShortLifted os started H enc)
#print axioms rawShort_said
end Go.Proofs.Ytcccenipmefkiaa
