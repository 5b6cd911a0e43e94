import Derived.Test.YtilbglkpbjamfaaFrF
namespace Go.Proofs.Ytilbglkpbjamfaa
open Go Go.Eng Go.Rw Go.Fr Go.Proofs
set_option linter.unusedVariables false
set_option maxHeartbeats 2000000 in
theorem fsame_vc (a : List Msg) (b : List Msg) (k : AV → List (Option Blk) → List Blk → Prop) (hk : ∀ (r : Bool), (eqM a b → r = true) → k (AV.bool r) [] []) :
  ∀ (n1 : Int),
  (n1 = (↑a.length : Int)) →
  ((-9223372036854775808 : Int) ≤ n1 ∧ n1 ≤ (9223372036854775807 : Int)) →
  ∀ (n4 : Int),
  (n4 = (↑b.length : Int)) →
  ((-9223372036854775808 : Int) ≤ n4 ∧ n4 ≤ (9223372036854775807 : Int)) →
  br (n1 != n4)
   ((k (AV.bool false) [] []))
   ((
     ∃ (v : Int),
     (a = a) ∧
     (b = b) ∧
     ((0 : Int) = v) ∧
     (
      ((0 : Int) ≤ v) ∧
      (v ≤ (↑a.length : Int))) ∧
     (a.length = b.length)) ∧
    ∀ (v_7 : Int),
    (((0 : Int) ≤ v_7 ∧ v_7 ≤ (↑a.length : Int)) ∧ a.length = b.length) →
    ∀ (n9 : Int),
    (n9 = (↑a.length : Int)) →
    ((-9223372036854775808 : Int) ≤ n9 ∧ n9 ≤ (9223372036854775807 : Int)) →
    br (decide (v_7 < n9))
     (((0 : Int) ≤ v_7) ∧
      (v_7 < (↑a.length : Int)) ∧
      ∀ (n12 : Int),
      (n12 = (↑(a.getD v_7.toNat (dflt (8 : Nat))).kind.toNat : Int)) →
      ((0 : Int) ≤ n12 ∧ n12 ≤ (255 : Int)) →
      ((0 : Int) ≤ v_7) ∧
      (v_7 < (↑b.length : Int)) ∧
      ∀ (n15 : Int),
      (n15 = (↑(b.getD v_7.toNat (dflt (8 : Nat))).kind.toNat : Int)) →
      ((0 : Int) ≤ n15 ∧ n15 ≤ (255 : Int)) →
      (
       ((n12 != n15) = false) →
       ((0 : Int) ≤ v_7) ∧
       (v_7 < (↑a.length : Int))) ∧
      ∀ (n19 : Int),
      (n19 = (↑(a.getD v_7.toNat (dflt (8 : Nat))).seq.toNat : Int)) →
      (
       ((n12 != n15) = false) →
       ((0 : Int) ≤ v_7) ∧
       (v_7 < (↑b.length : Int))) ∧
      ∀ (n22 : Int),
      (n22 = (↑(b.getD v_7.toNat (dflt (8 : Nat))).seq.toNat : Int)) →
      (
       ((bif n12 != n15 then true else n19 != n22) = false) →
       ((0 : Int) ≤ v_7) ∧
       (v_7 < (↑a.length : Int))) ∧
      (
       ((bif n12 != n15 then true else n19 != n22) = false) →
       ((0 : Int) ≤ v_7) ∧
       (v_7 < (↑b.length : Int))) ∧
      br (bif bif n12 != n15 then true else n19 != n22 then true else !{ data := (a.getD v_7.toNat (dflt (8 : Nat))).body.toArray : ByteArray }.data.toList == { data := (b.getD v_7.toNat (dflt (8 : Nat))).body.toArray : ByteArray }.data.toList)
       ((k (AV.bool false) [] []))
       (∀ (n26 : Int),
        (n26 = IntKind.i64.wrap (v_7 + (1 : Int))) →
        ((-9223372036854775808 : Int) ≤ n26 ∧ n26 ≤ (9223372036854775807 : Int)) →
        ∃ (v' : Int),
        (a = a) ∧
        (b = b) ∧
        (n26 = v') ∧
        (
         (
          ((0 : Int) ≤ v') ∧
          (v' ≤ (↑a.length : Int))) ∧
         (a.length = b.length)) ∧
        (((↑a.length : Int) - v').toNat < ((↑a.length : Int) - v_7).toNat)))
     ((k (AV.bool true) [] []))) := by
  intro n1
  intro q1 -- n1 = (↑a.length : Int)
  intro ⟨l1, u1⟩ -- (-9223372036854775808 : Int) ≤ n1 ∧ n1 ≤ (9223372036854775807 : Int)
  intro n4
  intro q4 -- n4 = (↑b.length : Int)
  intro ⟨l4, u4⟩ -- (-9223372036854775808 : Int) ≤ n4 ∧ n4 ≤ (9223372036854775807 : Int)
  refine br_intro (fun c1 => ?_) (fun c1 => ?_) -- n1 != n4
  · -- yes
    simp at c1 -- ¬n1 = n4
    -- k (AV.bool false) [] []
    exact hk false fun e => absurd (congrArg List.length e.e) (by omega)
  · -- no
    simp at c1 -- n1 = n4
    refine ⟨?_, ?_⟩
    · -- left
      refine ⟨(0 : Int), ?_⟩
      refine ⟨by first | with_reducible rfl | rfl, ?_⟩ -- a = a
      refine ⟨by first | with_reducible rfl | rfl, ?_⟩ -- b = b
      refine ⟨by first | with_reducible rfl | rfl, ?_⟩ -- (0 : Int) = (0 : Int)
      refine ⟨by first | omega | (dsimp only; omega), ?_⟩ -- (0 : Int) ≤ (0 : Int) ∧ (0 : Int) ≤ (↑a.length : Int)
      exact by show a.length = b.length; omega -- a.length = b.length
    intro v_7
    intro h2 -- ((0 : Int) ≤ v_7 ∧ v_7 ≤ (↑a.length : Int)) ∧ a.length = b.length
    intro n9
    intro q9 -- n9 = (↑a.length : Int)
    intro ⟨l9, u9⟩ -- (-9223372036854775808 : Int) ≤ n9 ∧ n9 ≤ (9223372036854775807 : Int)
    refine brd (fun c3 => ?_) (fun c3 => ?_) -- decide (v_7 < n9)
    · -- yes
      refine ⟨by first | omega | (dsimp only; omega), ?_⟩ -- (0 : Int) ≤ v_7
      refine ⟨by first | omega | (dsimp only; omega), ?_⟩ -- v_7 < (↑a.length : Int)
      intro n12
      intro q12 -- n12 = (↑(a.getD v_7.toNat (dflt (8 : Nat))).kind.toNat : Int)
      intro ⟨l12, u12⟩ -- (0 : Int) ≤ n12 ∧ n12 ≤ (255 : Int)
      refine ⟨by first | omega | (dsimp only; omega), ?_⟩ -- (0 : Int) ≤ v_7
      refine ⟨by first | omega | (dsimp only; omega), ?_⟩ -- v_7 < (↑b.length : Int)
      intro n15
      intro q15 -- n15 = (↑(b.getD v_7.toNat (dflt (8 : Nat))).kind.toNat : Int)
      intro ⟨l15, u15⟩ -- (0 : Int) ≤ n15 ∧ n15 ≤ (255 : Int)
      refine ⟨?_, ?_⟩
      · -- left
        intro h4 -- (n12 != n15) = false
        simp at h4 -- n12 = n15
        refine ⟨by first | omega | (dsimp only; omega), ?_⟩ -- (0 : Int) ≤ v_7
        exact by omega -- v_7 < (↑a.length : Int)
      intro n19
      intro q19 -- n19 = (↑(a.getD v_7.toNat (dflt (8 : Nat))).seq.toNat : Int)
      refine ⟨?_, ?_⟩
      · -- left
        intro q19 -- (n12 != n15) = false
        simp at q19 -- n12 = n15
        refine ⟨by first | omega | (dsimp only; omega), ?_⟩ -- (0 : Int) ≤ v_7
        exact by omega -- v_7 < (↑b.length : Int)
      intro n22
      intro q22 -- n22 = (↑(b.getD v_7.toNat (dflt (8 : Nat))).seq.toNat : Int)
      refine ⟨?_, ?_⟩
      · -- left
        intro q22 -- (bif n12 != n15 then true else n19 != n22) = false
        simp at q22 -- n12 = n15 ∧ n19 = n22
        refine ⟨by first | omega | (dsimp only; omega), ?_⟩ -- (0 : Int) ≤ v_7
        exact by omega -- v_7 < (↑a.length : Int)
      refine ⟨?_, ?_⟩
      · -- left
        intro q22 -- (bif n12 != n15 then true else n19 != n22) = false
        simp at q22 -- n12 = n15 ∧ n19 = n22
        refine ⟨by first | omega | (dsimp only; omega), ?_⟩ -- (0 : Int) ≤ v_7
        exact by omega -- v_7 < (↑b.length : Int)
      refine br_intro (fun c5 => ?_) (fun c5 => ?_) -- bif bif n12 != n15 then true else n19 != n22 then true else !{ data := (a.getD v_7.toNat (dflt (8 : Nat))).body.toArray : ByteArray }.data.toList == { data := (b.getD v_7.toNat (dflt (8 : Nat))).body.toArray : ByteArray }.data.toList
      · -- yes
        simp at c5 -- (¬n12 = n15 ∨ ¬n19 = n22) ∨ ¬(a[v_7.toNat]?.getD (dflt (8 : Nat))).body = (b[v_7.toNat]?.getD (dflt (8 : Nat))).body
        -- k (AV.bool false) [] []
        exact hk false fun e => by
          have E := e.e
          subst E
          exfalso
          rcases c5 with (c | c) | c
          · exact c (q12.trans q15.symm)
          · exact c (q19.trans q22.symm)
          · exact c rfl
      · -- no
        simp at c5 -- (n12 = n15 ∧ n19 = n22) ∧ (a[v_7.toNat]?.getD (dflt (8 : Nat))).body = (b[v_7.toNat]?.getD (dflt (8 : Nat))).body
        intro n26
        intro q26 -- n26 = IntKind.i64.wrap (v_7 + (1 : Int))
        rw [IntKind.wrap_i64] at q26
        intro ⟨l26, u26⟩ -- (-9223372036854775808 : Int) ≤ n26 ∧ n26 ≤ (9223372036854775807 : Int)
        refine ⟨n26, ?_⟩
        refine ⟨by first | with_reducible rfl | rfl, ?_⟩ -- a = a
        refine ⟨by first | with_reducible rfl | rfl, ?_⟩ -- b = b
        refine ⟨by first | with_reducible rfl | rfl, ?_⟩ -- n26 = n26
        refine ⟨?_, ?_⟩
        · -- left
          refine ⟨by first | omega | (dsimp only; omega), ?_⟩ -- (0 : Int) ≤ n26 ∧ n26 ≤ (↑a.length : Int)
          exact by show a.length = b.length; omega -- a.length = b.length
        exact by show ((↑a.length : Int) - n26).toNat < ((↑a.length : Int) - v_7).toNat; omega -- ((↑a.length : Int) - n26).toNat < ((↑a.length : Int) - v_7).toNat
    · -- no
      -- k (AV.bool true) [] []
      exact hk true fun _ => rfl

theorem fsame_ok : Holds Try.prog 29 sameS := by
  refine fn_sound (env := mkEnv T0) (tab_ok T0_ok) Try.func29 Try.call29 fun args k h => ?_
  match args, h with
  | [.sl 8 a, .sl 8 b], h => exact ⟨by kernel_rfl, sameLoops a b, fun _ _ => none, .cast (by kernel_rfl) (fsame_vc a b k h)⟩
def T2 : Tab := [(27, trueS), (10, insideS), (14, openS), (18, stuffS), (16, bareS), (29, sameS)]
theorem T2_ok : TabOk Try.prog T2 := ⟨alive_ok, inside_ok, open_ok, stuff_ok, bare_ok, fsame_ok, trivial⟩
def lawTurned : Eng.Spec := { ro := true, own := [], run := fun args _ k => match args with
  | [.agg [.int .u8 kd, .int .u32 sq, .sl 0 bo], .int .i64 at', .int .u8 by'] => inK .u8 kd ∧ inK .u32 sq ∧ inK .i64 at' ∧ inK .u8 by' ∧ k (.bool true) [] []
  | _ => False }
def lawBack : Eng.Spec := { ro := true, own := [], run := fun args _ k => match args with
  | [.agg [.int .u8 kd, .int .u32 sq, .sl 0 bo], .sl 0 b] => inK .u8 kd ∧ inK .u32 sq ∧ k (.bool true) [] []
  | _ => False }
def backLoops (b : List UInt8) : List Nat → Nat → Option LoopAnn := fun _ r => match r with
  | 13 => some { V := Int, st := fun v => ⟨mk 126 [(1, .sl 0 b), (5, .bool true), (10, .row 0 12001 0 (stf b).length), (11, .int .i64 v)], [], [(12001, .row 0 (stf b))]⟩, I := fun v => (0 ≤ v ∧ v ≤ (stf b).length) ∧ b.length ≤ 10000, μ := fun v => ((stf b).length - v).toNat }
  | _ => none
end Go.Proofs.Ytilbglkpbjamfaa

