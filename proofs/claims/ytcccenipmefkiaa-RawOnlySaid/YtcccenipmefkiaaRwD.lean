/- RawOnly: nothing is written in two ways: what is read is written as it was. Any bytes. No conditions beyond the row's own. -/
import Derived.Test.YtcccenipmefkiaaRwC
import Derived.Test.YtcccenipmefkiaaEngR
import Derived.Test.YtcccenipmefkiaaRows
namespace Go.Proofs.Ytcccenipmefkiaa
open Go Go.Eng Go.Rw Go.Proofs
set_option linter.unusedVariables false
set_option maxHeartbeats 2000000 in
theorem rawOnly_vc (xs : List UInt8) (k : AV → List (Option Blk) → List Blk → Prop) (hk : k (AV.bool true) [] []) :
  ∀ (n1 : Int),
  (n1 = (↑xs.length : Int)) →
  ((-9223372036854775808 : Int) ≤ n1 ∧ n1 ≤ (9223372036854775807 : Int)) →
  br (decide (n1 > (10000 : Int)))
   ((k (AV.bool true) [] []))
   ((xs.length ≤ (1000000 : Nat)) ∧
    ∀ (a_4 : Int),
    ∀ (b_5 : Int),
    ∀ (c_6 : Int),
    (a_4 = (↑(readG (0 : Nat) (0 : Nat) xs).fst : Int)) →
    (b_5 = (↑(readG (0 : Nat) (0 : Nat) xs).snd.fst : Int)) →
    (c_6 = (↑(readG (0 : Nat) (0 : Nat) xs).snd.snd : Int)) →
    ((0 : Int) ≤ a_4 ∧ a_4 ≤ (18446744073709551615 : Int)) →
    ((0 : Int) ≤ b_5 ∧ b_5 ≤ (10 : Int)) →
    (c_6 = (0 : Int) ∨ c_6 = (8 : Int)) →
    br (c_6 != (0 : Int))
     ((k (AV.bool (bif bif bif true then c_6 == (8 : Int) else false then a_4 == (0 : Int) else false then b_5 == (0 : Int) else false)) [] []))
     (∀ (n13 : Int),
      (n13 = (↑xs.length : Int)) →
      (
       ((bif bif bif true then decide (b_5 ≥ (1 : Int)) else false then decide (b_5 ≤ n13) else false then decide (b_5 ≤ (10 : Int)) else false) = true) →
       ((0 : Int) ≤ b_5) ∧
       (b_5 ≤ (↑xs.length : Int))) ∧
      br (bif bif bif true then decide (b_5 ≥ (1 : Int)) else false then decide (b_5 ≤ n13) else false then decide (b_5 ≤ (10 : Int)) else false)
       ((
         ((0 : Int) ≤ a_4) ∧
         (a_4 ≤ (18446744073709551615 : Int))) ∧
        ∀ (ys_16 : List UInt8),
        ∀ (q_17 : Nat),
        (ys_16 = smallL a_4.toNat) →
        (ys_16.length = q_17) →
        (q_17 ≤ (10 : Nat)) →
        ∀ (r_21 : Bool),
        (r_21 = true ↔ List.take q_17 (List.drop (0 : Nat) ys_16) = List.take b_5.toNat xs) →
        (k (AV.bool (bif true then r_21 else false)) [] []))
       ((false = false) ∧
        (k (AV.bool false) [] [])))) := by
  intro n1
  intro q1 -- n1 = (↑xs.length : Int)
  intro ⟨l1, u1⟩ -- (-9223372036854775808 : Int) ≤ n1 ∧ n1 ≤ (9223372036854775807 : Int)
  refine brd (fun c1 => ?_) (fun c1 => ?_) -- decide (n1 > (10000 : Int))
  · -- yes
    exact by exact hk -- k (AV.bool true) [] []
  · -- no
    refine ⟨by first | omega | (dsimp only; omega), ?_⟩ -- xs.length ≤ (1000000 : Nat)
    intro a_4
    intro b_5
    intro c_6
    intro h2 -- a_4 = (↑(readG (0 : Nat) (0 : Nat) xs).fst : Int)
    intro h3 -- b_5 = (↑(readG (0 : Nat) (0 : Nat) xs).snd.fst : Int)
    intro h4 -- c_6 = (↑(readG (0 : Nat) (0 : Nat) xs).snd.snd : Int)
    intro ⟨a5, b5⟩ -- (0 : Int) ≤ a_4 ∧ a_4 ≤ (18446744073709551615 : Int)
    intro ⟨a6, b6⟩ -- (0 : Int) ≤ b_5 ∧ b_5 ≤ (10 : Int)
    intro h7 -- c_6 = (0 : Int) ∨ c_6 = (8 : Int)
    refine br_intro (fun c8 => ?_) (fun c8 => ?_) -- c_6 != (0 : Int)
    · -- yes
      simp at c8 -- ¬c_6 = (0 : Int)
      -- k (AV.bool (bif bif bif true then c_6 == (8 : Int) else false then a_4 == (0 : Int) else false then b_5 == (0 : Int) else false)) [] []
      rcases read_only xs with R | ⟨m, j, R, r1, r2, r3, r4⟩ <;> rw [R] at h2 h3 h4 <;> dsimp only at h2 h3 h4
      · exact k_true hk (by rw [h2, h3, h4]; rfl)
      · exfalso; omega
    · -- no
      simp at c8 -- c_6 = (0 : Int)
      intro n13
      intro q13 -- n13 = (↑xs.length : Int)
      refine ⟨?_, ?_⟩
      · -- left
        intro q13 -- (bif bif bif true then decide (b_5 ≥ (1 : Int)) else false then decide (b_5 ≤ n13) else false then decide (b_5 ≤ (10 : Int)) else false) = true
        simp at q13 -- ((1 : Int) ≤ b_5 ∧ b_5 ≤ n13) ∧ b_5 ≤ (10 : Int)
        refine ⟨by assumption, ?_⟩ -- (0 : Int) ≤ b_5
        exact by omega -- b_5 ≤ (↑xs.length : Int)
      refine br_intro (fun c9 => ?_) (fun c9 => ?_) -- bif bif bif true then decide (b_5 ≥ (1 : Int)) else false then decide (b_5 ≤ n13) else false then decide (b_5 ≤ (10 : Int)) else false
      · -- yes
        simp at c9 -- ((1 : Int) ≤ b_5 ∧ b_5 ≤ n13) ∧ b_5 ≤ (10 : Int)
        refine ⟨by exact ⟨by assumption, by assumption⟩, ?_⟩ -- (0 : Int) ≤ a_4 ∧ a_4 ≤ (18446744073709551615 : Int)
        intro ys_16
        intro q_17
        intro h10 -- ys_16 = smallL a_4.toNat
        intro h11 -- ys_16.length = q_17
        intro h12 -- q_17 ≤ (10 : Nat)
        intro r_21
        intro h13 -- r_21 = true ↔ List.take q_17 (List.drop (0 : Nat) ys_16) = List.take b_5.toNat xs
        -- k (AV.bool (bif true then r_21 else false)) [] []
        rcases read_only xs with R | ⟨m, j, R, r1, r2, r3, r4⟩ <;> rw [R] at h2 h3 h4 <;> dsimp only at h2 h3 h4
        · exfalso; omega
        · have t : r_21 = true := h13.2 (by
            rw [List.drop_zero, List.take_of_length_le (by omega), h10, show a_4.toNat = m by omega, r4, show b_5.toNat = j by omega])
          exact k_true hk (by rw [t]; rfl)
      · -- no
        simp at c9 -- (1 : Int) ≤ b_5 → b_5 ≤ n13 → (10 : Int) < b_5
        refine ⟨by with_reducible rfl, ?_⟩ -- false = false
        -- k (AV.bool false) [] []
        rcases read_only xs with R | ⟨m, j, R, r1, r2, r3, r4⟩ <;> rw [R] at h2 h3 h4 <;> dsimp only at h2 h3 h4
        · exfalso; omega
        · exfalso; omega

theorem rawOnly_ok : Holds Try.prog 6 lawB := by
  refine fn_sound (env := mkEnv T1) (tab_ok T1_ok) Try.func6 Try.call6 fun args k h => ?_
  match args, h with
  | [.sl 0 xs], h => exact ⟨by kernel_rfl, fun _ _ => none, fun _ _ => none, .cast (by kernel_rfl) (rawOnly_vc xs k h)⟩
end Go.Proofs.Ytcccenipmefkiaa
namespace Go.Proofs.Ytcccenipmefkiaa
open Go.ChangeShapes Go.WideShapes Go.ChangeAt Go.RowKit Go.Eng
set_option linter.unusedVariables false

theorem ownA : ownKnob Try.prog.godebug = none := by kernel_rfl
theorem laidA : laidOutB Try.prog = true := by kernel_rfl

set_option maxHeartbeats 800000 in
set_option maxRecDepth 100000 in
theorem rawOnlyLifted (os : Os) (started : os.Started) (H : Type) (enc : TypeId × Value → H) :
    ReturnsInHanded {} Try.checked os 6 .any (Rows.rawOnlySpec.pre6 enc Try.prog Try.f6 Rows.rawOnlyRow.domain false) (Rows.rawOnlySpec.post enc Try.prog Try.f6 false true false false) := by
  refine returnsInHanded_of_change (C := Try.checked) ownA started (by kernel_rfl) Try.func6
    (ChangeSpec.witness6 (enc := enc) (C := Try.checked) false ⟨#[], #[.slice none 0 0], []⟩ 8 (by kernel_rfl) (by kernel_rfl) (by kernel_rfl) (by kernel_rfl)) ?_
  intro W base args ds gs before hval0 hW hcnd _
  have hval : ∀ (j : Nat) t v, Try.f6.params[j]? = some t → args[j]? = some v → Value.okWide Try.prog W .any base t v := hval0
  have hW' := hW
  obtain ⟨p, q, hA0, hV, rfl, hfz, hnd⟩ := hW
  have hA : DataW.TrodAll enc Try.prog W 0 (fun _ => true) true Try.f6.params.toList args.toList ds p := hA0
  rw [Try.params6] at hA hval
  obtain ⟨v0, vs0, d0, ds0, p0, q0, hargs, rfl, rfl, h0, r0⟩ := trodAll_cons hA
  obtain ⟨rfl, rfl, rfl⟩ := trodAll_nil r0
  obtain rfl : args = #[v0] := by cases args; simp_all
  obtain ⟨rfl, rfl⟩ := trodVars_none hV
  have k0 := h0
  have lt0 : ∀ x ∈ p0, x.block < W.heap.size := by obtain ⟨m, hm⟩ := k0; exact DataW.trod_lt m _ _ _ hm
  obtain ⟨xs0, w0⟩ : ∃ xs : List UInt8, Rep W (· < W.heap.size) noIds v0 (.sl 0 xs) := by
    obtain ⟨fuel, hf⟩ := h0
    exact rep_bytes Try.underlying22 Try.underlying5 (by kernel_rfl) (hval 0 22 v0 rfl rfl) hf
  clear hA0 hval0
  -- PRE: what the spec asks ([]), then rfl
  refine (calls_of_holds rawOnly_ok Try.call6 (w := W) (vals := #[v0]) (args := [.sl 0 xs0]) rfl (fun j v hj => ?_) rfl).mono fun e W' ⟨he, bel⟩ => ?_
  · rcases j with _ | j
    · simp at hj; subst hj; exact w0
    · simp at hj
  subst he
  exact ⟨_, rfl, _, _, _, [], _, [], hW', trodAll_mk1 (shut_bool Try.underlying4 _), (trodAll_cons_mk (Below.trod laidA (by kernel_rfl) (of_decide_eq_true (by kernel_rfl)) k0 bel lt0) trodAll_mk0), rfl, bel.frame _, fun h => by cases h⟩

theorem rawOnly_said : Rows.RawOnlySaid :=
  OpenClaim.holds_of_wide 6 Try.f6 rfl rfl rfl rfl rfl rfl rfl ⟨rfl, rfl, rfl, rfl, rfl⟩ rfl rfl rfl rfl rfl (by kernel_rfl) Try.func6 (by kernel_rfl)
    (of_decide_eq_true (by kernel_rfl)) (by unfold Func.isWrapper; first | (rw [if_pos (by decide +kernel)]; kernel_rfl) | (rw [if_neg (by decide +kernel)]; exact ⟨rfl, rfl⟩))
    (fun os started H enc _ => rawOnlyLifted os started H enc)
#print axioms rawOnly_said
end Go.Proofs.Ytcccenipmefkiaa


