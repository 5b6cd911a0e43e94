/- BlockLast: what was written is read, and all other blocks are as they were. Any device, two blocks, any bytes. No conditions beyond the row's own. -/
import Derived.Test.YtiekaipompepdaaBkI
import Derived.Test.YtiekaipompepdaaEngR
import Derived.Test.YtiekaipompepdaaRows
namespace Go.Proofs.Ytiekaipompepdaa
open Go Go.Eng Go.Bk Go.Proofs
set_option linter.unusedVariables false
set_option maxHeartbeats 2000000 in
theorem blockLast_vc (d : List UInt8) (n : Int) (n0 : (-9223372036854775808 : Int) ≤ n) (n1 : n ≤ (9223372036854775807 : Int)) (m : Int) (m0 : (-9223372036854775808 : Int) ≤ m) (m1 : m ≤ (9223372036854775807 : Int)) (b : List UInt8) (k : AV → List (Option Blk) → List Blk → Prop) (hk : k (AV.bool true) [] []) :
  ∀ (n1 : Int),
  (n1 = (↑d.length : Int)) →
  ((-9223372036854775808 : Int) ≤ n1 ∧ n1 ≤ (9223372036854775807 : Int)) →
  ∀ (n4 : Int),
  (n4 = (↑b.length : Int)) →
  br (bif decide (n1 > (10000 : Int)) then true else n4 != (64 : Int))
   ((k (AV.bool true) [] []))
   ((d.length ≤ (1000000 : Nat)) ∧
    ∀ (e_6 : Int),
    ∀ (ys_7 : List UInt8),
    ∀ (q_8 : Nat),
    (e_6 = doE d [{ n := n, data := b : Put }] (1 : Int) (0 : Int)) →
    (ys_7 = doO d [{ n := n, data := b : Put }] (1 : Int) (0 : Int)) →
    (ys_7.length = q_8) →
    br (e_6 != (0 : Int))
     (∀ (n12 : Int),
      (n12 = (↑q_8 : Int)) →
      (k (AV.bool (bif true then n12 == (0 : Int) else false)) [] []))
     (((List.take q_8 (List.drop (0 : Nat) ys_7)).length ≤ (1000000 : Nat)) ∧
      ∀ (e_14 : Int),
      ∀ (ys_15 : List UInt8),
      ∀ (q_16 : Nat),
      (e_14 = askE (List.take q_8 (List.drop (0 : Nat) ys_7)) n) →
      (ys_15 = rdO (List.take q_8 (List.drop (0 : Nat) ys_7)) n) →
      (ys_15.length = q_16) →
      ((List.take q_8 (List.drop (0 : Nat) ys_7)).length ≤ (1000000 : Nat)) ∧
      ∀ (e_20 : Int),
      ∀ (ys_21 : List UInt8),
      ∀ (q_22 : Nat),
      (e_20 = askE (List.take q_8 (List.drop (0 : Nat) ys_7)) m) →
      (ys_21 = rdO (List.take q_8 (List.drop (0 : Nat) ys_7)) m) →
      (ys_21.length = q_22) →
      (d.length ≤ (1000000 : Nat)) ∧
      ∀ (e_26 : Int),
      ∀ (ys_27 : List UInt8),
      ∀ (q_28 : Nat),
      (e_26 = askE d m) →
      (ys_27 = rdO d m) →
      (ys_27.length = q_28) →
      ∀ (n32 : Int),
      (n32 = (↑q_8 : Int)) →
      ∀ (n34 : Int),
      (n34 = (↑d.length : Int)) →
      (k (AV.bool (bif bif bif bif bif true then e_14 == (0 : Int) else false then { data := (List.take q_16 (List.drop (0 : Nat) ys_15)).toArray : ByteArray }.data.toList == { data := b.toArray : ByteArray }.data.toList else false then e_20 == e_26 else false then bif m == n then true else { data := (List.take q_22 (List.drop (0 : Nat) ys_21)).toArray : ByteArray }.data.toList == { data := (List.take q_28 (List.drop (0 : Nat) ys_27)).toArray : ByteArray }.data.toList else false then n32 == n34 else false)) [] []))) := by
  intro n1
  intro q1 -- n1 = (↑d.length : Int)
  intro ⟨l1, u1⟩ -- (-9223372036854775808 : Int) ≤ n1 ∧ n1 ≤ (9223372036854775807 : Int)
  intro n4
  intro q4 -- n4 = (↑b.length : Int)
  refine br_intro (fun c1 => ?_) (fun c1 => ?_) -- bif decide (n1 > (10000 : Int)) then true else n4 != (64 : Int)
  · -- yes
    simp at c1 -- (10000 : Int) < n1 ∨ ¬n4 = (64 : Int)
    exact by exact hk -- k (AV.bool true) [] []
  · -- no
    simp at c1 -- n1 ≤ (10000 : Int) ∧ n4 = (64 : Int)
    refine ⟨by first | omega | (dsimp only; omega), ?_⟩ -- d.length ≤ (1000000 : Nat)
    intro e_6
    intro ys_7
    intro q_8
    intro h2 -- e_6 = doE d [{ n := n, data := b : Put }] (1 : Int) (0 : Int)
    intro h3 -- ys_7 = doO d [{ n := n, data := b : Put }] (1 : Int) (0 : Int)
    intro h4 -- ys_7.length = q_8
    refine br_intro (fun c5 => ?_) (fun c5 => ?_) -- e_6 != (0 : Int)
    · -- yes
      simp at c5 -- ¬e_6 = (0 : Int)
      intro n12
      intro q12 -- n12 = (↑q_8 : Int)
      -- k (AV.bool (bif true then n12 == (0 : Int) else false)) [] []
      have z : q_8 = 0 := by rw [← h4, h3]; unfold doO; rw [if_neg (fun c => c5 (h2.trans c))]; rfl
      exact k_true hk (by rw [show n12 = 0 by omega]; rfl)
    · -- no
      simp at c5 -- e_6 = (0 : Int)
      have h6 : (List.take q_8 (List.drop (0 : Nat) ys_7)).length ≤ (1000000 : Nat) := by
        have La := last (d := d) (b := b) (n := n) (by omega) (h2.symm.trans c5)
        have T : List.take q_8 (List.drop 0 ys_7) = doO d [⟨n, b⟩] 1 0 := by rw [← h4, List.drop_zero, List.take_length, h3]
        rw [T, La.2.2.1]
        omega
      refine ⟨h6, ?_⟩
      intro e_14
      intro ys_15
      intro q_16
      intro h7 -- e_14 = askE (List.take q_8 (List.drop (0 : Nat) ys_7)) n
      intro h8 -- ys_15 = rdO (List.take q_8 (List.drop (0 : Nat) ys_7)) n
      intro h9 -- ys_15.length = q_16
      refine ⟨by assumption, ?_⟩ -- (List.take q_8 (List.drop (0 : Nat) ys_7)).length ≤ (1000000 : Nat)
      intro e_20
      intro ys_21
      intro q_22
      intro h10 -- e_20 = askE (List.take q_8 (List.drop (0 : Nat) ys_7)) m
      intro h11 -- ys_21 = rdO (List.take q_8 (List.drop (0 : Nat) ys_7)) m
      intro h12 -- ys_21.length = q_22
      refine ⟨by first | omega | (dsimp only; omega), ?_⟩ -- d.length ≤ (1000000 : Nat)
      intro e_26
      intro ys_27
      intro q_28
      intro h13 -- e_26 = askE d m
      intro h14 -- ys_27 = rdO d m
      intro h15 -- ys_27.length = q_28
      intro n32
      intro q32 -- n32 = (↑q_8 : Int)
      intro n34
      intro q34 -- n34 = (↑d.length : Int)
      -- k (AV.bool (bif bif bif bif bif true then e_14 == (0 : Int) else false then { data := (List.take q_16 (List.drop (0 : Nat) ys_15)).toArray : ByteArray }.data.toList == { data := b.toArray : ByteArray }.data.toList else false then e_20 == e_26 else false then bif m == n then true else { data := (List.take q_22 (List.drop (0 : Nat) ys_21)).toArray : ByteArray }.data.toList == { data := (List.take q_28 (List.drop (0 : Nat) ys_27)).toArray : ByteArray }.data.toList else false then n32 == n34 else false)) [] []
      have La := last (d := d) (b := b) (n := n) (by omega) (h2.symm.trans c5)
      have T : List.take q_8 (List.drop 0 ys_7) = doO d [⟨n, b⟩] 1 0 := by rw [← h4, List.drop_zero, List.take_length, h3]
      rw [T] at h7 h8 h10 h11
      have f1 : e_14 = 0 := h7.trans La.1
      have f2 : List.take q_16 (List.drop 0 ys_15) = b := by rw [← h9, List.drop_zero, List.take_length, h8]; exact La.2.1
      have f3 : e_20 = e_26 := by rw [h10, h13]; exact (La.2.2.2 m).1
      have f4 : n32 = n34 := by
        have := La.2.2.1
        rw [← h3, h4] at this
        omega
      have f5 : m ≠ n → List.take q_22 (List.drop 0 ys_21) = List.take q_28 (List.drop 0 ys_27) := fun hm => by rw [← h12, ← h15, List.drop_zero, List.take_length, List.drop_zero, List.take_length, h11, h14]; exact (La.2.2.2 m).2 hm
      exact k_true hk (by
        rw [f1, f2, f3, f4]
        by_cases hm : m = n
        · simp [hm]
        · rw [f5 hm]; simp)

theorem blockLast_ok : Holds Try.prog 4 lawLast := by
  refine fn_sound (env := mkEnv N8) (tab_ok N8_ok) Try.func4 Try.call4 fun args k h => ?_
  match args, h with
  | [.agg [.sl 0 d], .int .i64 n, .int .i64 m, .sl 0 b], h => exact ⟨by kernel_rfl, fun _ _ => none, fun _ _ => none, .cast (by kernel_rfl) (blockLast_vc d n h.1.1 h.1.2 m h.2.1.1 h.2.1.2 b k h.2.2)⟩
end Go.Proofs.Ytiekaipompepdaa
namespace Go.Proofs.Ytiekaipompepdaa
open Go.ChangeShapes Go.WideShapes Go.ChangeAt Go.RowKit Go.Eng
set_option linter.unusedVariables false

theorem ownL : ownKnob Try.prog.godebug = none := by kernel_rfl
theorem laidL : laidOutB Try.prog = true := by kernel_rfl

set_option maxHeartbeats 800000 in
set_option maxRecDepth 100000 in
theorem blockLastLifted (os : Os) (started : os.Started) (H : Type) (enc : TypeId × Value → H) :
    ReturnsInHanded {} Try.checked os 4 .any (Rows.blockLastSpec.pre6 enc Try.prog Try.f4 Rows.blockLastRow.domain false) (Rows.blockLastSpec.post enc Try.prog Try.f4 false true false false) := by
  refine returnsInHanded_of_change (C := Try.checked) ownL started (by kernel_rfl) Try.func4
    (ChangeSpec.witness6 (enc := enc) (C := Try.checked) false ⟨#[], #[.agg #[.slice none 0 0], .int .i64 0, .int .i64 0, .slice none 0 0], []⟩ 8 (by kernel_rfl) (by kernel_rfl) (by kernel_rfl) (by kernel_rfl)) ?_
  intro W base args ds gs before hval0 hW hcnd _
  have hval : ∀ (j : Nat) t v, Try.f4.params[j]? = some t → args[j]? = some v → Value.okWide Try.prog W .any base t v := hval0
  have hW' := hW
  obtain ⟨p, q, hA0, hV, rfl, hfz, hnd⟩ := hW
  have hA : DataW.TrodAll enc Try.prog W 0 (fun _ => true) true Try.f4.params.toList args.toList ds p := hA0
  rw [Try.params4] at hA hval
  obtain ⟨v0, vs0, d0, ds0, p0, q0, hargs, rfl, rfl, h0, r0⟩ := trodAll_cons hA
  obtain ⟨v1, vs1, d1, ds1, p1, q1, rfl, rfl, rfl, h1, r1⟩ := trodAll_cons r0
  obtain ⟨v2, vs2, d2, ds2, p2, q2, rfl, rfl, rfl, h2, r2⟩ := trodAll_cons r1
  obtain ⟨v3, vs3, d3, ds3, p3, q3, rfl, rfl, rfl, h3, r3⟩ := trodAll_cons r2
  obtain ⟨rfl, rfl, rfl⟩ := trodAll_nil r3
  obtain rfl : args = #[v0, v1, v2, v3] := by cases args; simp_all
  obtain ⟨rfl, rfl⟩ := trodVars_none hV
  have k0 := h0
  have lt0 : ∀ x ∈ p0, x.block < W.heap.size := by obtain ⟨m, hm⟩ := k0; exact DataW.trod_lt m _ _ _ hm
  obtain ⟨fuel0, hf0⟩ := h0
  obtain ⟨cs0, rfl, hsz0, hcs0⟩ := open_scal Try.underlying24 (by kernel_rfl) (by kernel_rfl) (hval 0 24 v0 rfl rfl) hf0
  obtain ⟨c0_0, rfl⟩ : ∃ b0, cs0 = #[b0] := by
    exact arr1 hsz0
  obtain ⟨n0_0, y0_0, hy0_0⟩ := hcs0 0 _ _ rfl rfl
  obtain ⟨u0_0, xs0_0, e0_0, o0_0, w0_0, -⟩ := rep_slice (c := 0) (by decide) Try.underlying22 (by kernel_rfl) (cells_u8 Try.underlying5) hy0_0
  obtain rfl : c0_0 = u0_0 := by simpa using e0_0
  obtain ⟨a1, rfl, rfl, rfl, w1⟩ := open_int Try.underlying3 (hval 1 3 v1 rfl rfl) h1
  obtain ⟨a2, rfl, rfl, rfl, w2⟩ := open_int Try.underlying3 (hval 2 3 v2 rfl rfl) h2
  have k3 := h3
  have lt3 : ∀ x ∈ p3, x.block < W.heap.size := by obtain ⟨m, hm⟩ := k3; exact DataW.trod_lt m _ _ _ hm
  obtain ⟨xs3, w3, z3⟩ : ∃ xs : List (ty 0), Rep W (· < W.heap.size) noIds v3 (.sl 0 xs) ∧ DSz Z0 d3 xs := by
    obtain ⟨fuel, hf⟩ := h3
    exact rep_in (c := 0) (by decide) Try.underlying22 (by kernel_rfl) (cells_u8 Try.underlying5) (hval 3 22 v3 rfl rfl) hf
  clear hA0 hval0
  have hk1 : kwf .i64 a1 := by simpa [Lit.wf, kwf] using w1
  have hk2 : kwf .i64 a2 := by simpa [Lit.wf, kwf] using w2
  refine (calls_of_holds blockLast_ok Try.call4 (w := W) (vals := #[.agg #[c0_0], .int .i64 a1, .int .i64 a2, v3]) (args := [.agg [.sl 0 xs0_0], .int .i64 a1, .int .i64 a2, .sl 0 xs3]) rfl (fun j v hj => ?_) ⟨hk1, hk2, rfl⟩).mono fun e W' ⟨he, bel⟩ => ?_
  · rcases j with _ | _ | _ | _ | j
    · simp at hj; subst hj; refine .agg rfl (fun j v h => ?_) (fun j v h => ?_) <;> rcases j with _ | j <;> simp at h <;> subst h <;> first | rfl | exact .bool | exact .int (by assumption) | assumption
    · simp at hj; subst hj; exact .int hk1
    · simp at hj; subst hj; exact .int hk2
    · simp at hj; subst hj; exact w3
    · simp at hj
  subst he
  exact ⟨_, rfl, _, _, _, [], _, [], hW', trodAll_mk1 (shut_bool Try.underlying4 _), (trodAll_cons_mk (Below.trod laidL (by kernel_rfl) (of_decide_eq_true (by kernel_rfl)) k0 bel lt0) (trodAll_cons_mk (shut_int Try.underlying3 w1) (trodAll_cons_mk (shut_int Try.underlying3 w2) (trodAll_cons_mk (Below.trod laidL (by kernel_rfl) (of_decide_eq_true (by kernel_rfl)) k3 bel lt3) trodAll_mk0)))), rfl, bel.frame _, fun h => by cases h⟩

theorem blockLast_said : Rows.BlockLastSaid :=
  OpenClaim.holds_of_wide 4 Try.f4 rfl rfl rfl rfl rfl rfl rfl ⟨rfl, rfl, rfl, rfl, rfl⟩ rfl rfl rfl rfl rfl (by kernel_rfl) Try.func4 (by kernel_rfl)
    (of_decide_eq_true (by kernel_rfl)) (by unfold Func.isWrapper; first | (rw [if_pos (by decide +kernel)]; kernel_rfl) | (rw [if_neg (by decide +kernel)]; exact ⟨rfl, rfl⟩))
    (fun os started H enc _ => blockLastLifted os started H enc)
#print axioms blockLast_said
end Go.Proofs.Ytiekaipompepdaa


