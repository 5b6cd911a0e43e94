import Derived.Test.YtpkfadgennejnaaLyB
namespace Go.Proofs.Ytpkfadgennejnaa
open Go Go.Eng Go.Lk Go.Proofs
set_option linter.unusedVariables false
set_option maxHeartbeats 2000000 in
theorem rnext_vc (an : Bool) (la : Int) (la0 : (0 : Int) ≤ la) (la1 : la ≤ (4294967295 : Int)) (ag : Int) (ag0 : (-9223372036854775808 : Int) ≤ ag) (ag1 : ag ≤ (9223372036854775807 : Int)) (got : List Msg) (hs : small got) (k : AV → List (Option Blk) → List Blk → Prop) (hk : (∀ (e : Int), e = lE an la ag got → e ≠ (0 : Int) → k (AV.tup [AV.agg [AV.bool false, AV.int IntKind.u32 (0 : Int), AV.int IntKind.i64 (0 : Int)], AV.nilsl, AV.int IntKind.i64 e]) [] []) ∧ (lE an la ag got = (0 : Int) → ∀ (b : Bool) (l a : Int) (ys : List Msg) (n : Nat), (b, l) = stk (an, la) got → inK IntKind.u32 l → ys = tk (an, la) got → ys.length = n → a = ageN ag n → k (AV.tup [AV.agg [AV.bool b, AV.int IntKind.u32 l, AV.int IntKind.i64 a], AV.row (8 : Nat) (0 : Nat) (0 : Nat) n, AV.int IntKind.i64 (0 : Int)]) [] [Blk.row (8 : Nat) ys])) :
 (
 ((0 : Int) ≤ la) ∧
 (la ≤ (4294967295 : Int))) ∧
 (
 ((-9223372036854775808 : Int) ≤ ag) ∧
 (ag ≤ (9223372036854775807 : Int))) ∧
 (
 (ag < (0 : Int) ∨ (1048576 : Int) < ag ∨ an = false ∧ la ≠ (0 : Int)) →
 (k (AV.tup [AV.agg [AV.bool false, AV.int IntKind.u32 (0 : Int), AV.int IntKind.i64 (0 : Int)], AV.nilsl, AV.int IntKind.i64 (8 : Int)]) [] [])) ∧
 ((¬lkBad an la ag) →
 ∀ (n1 : Int),
 (n1 = (↑got.length : Int)) →
 ((-9223372036854775808 : Int) ≤ n1 ∧ n1 ≤ (9223372036854775807 : Int)) →
 br (decide (n1 > (1024 : Int)))
 ((k (AV.tup [AV.agg [AV.bool false, AV.int IntKind.u32 (0 : Int), AV.int IntKind.i64 (0 : Int)], AV.nilsl, AV.int IntKind.i64 (4 : Int)]) [] []))
 ((
  ∃ (v : Int),
  (got = got) ∧
  ((0 : Int) = v) ∧
  (an = an) ∧
  (la = la) ∧
  (ag = ag) ∧
  (false = false) ∧
  ((0 : Int) = (0 : Int)) ∧
  ((0 : Int) = (0 : Int)) ∧
  (
   ((0 : Int) ≤ v) ∧
   (v ≤ (↑got.length : Int))) ∧
  ∀ (j_4 : Nat),
  (j_4 < v.toNat) →
  ((got.getD j_4 (dflt (8 : Nat))).body.length ≤ (512 : Nat))) ∧
  ∀ (v_6 : Int),
  (((0 : Int) ≤ v_6 ∧ v_6 ≤ (↑got.length : Int)) ∧ ∀ (j : Nat), j < v_6.toNat → (got.getD j (dflt (8 : Nat))).body.length ≤ (512 : Nat)) →
  ∀ (n8 : Int),
  (n8 = (↑got.length : Int)) →
  ((-9223372036854775808 : Int) ≤ n8 ∧ n8 ≤ (9223372036854775807 : Int)) →
  br (decide (v_6 < n8))
  (((0 : Int) ≤ v_6) ∧
   (v_6 < (↑got.length : Int)) ∧
   ∀ (n11 : Int),
   (n11 = (↑(got.getD v_6.toNat (dflt (8 : Nat))).body.length : Int)) →
   ((-9223372036854775808 : Int) ≤ n11 ∧ n11 ≤ (9223372036854775807 : Int)) →
   br (decide (n11 > (512 : Int)))
   ((k (AV.tup [AV.agg [AV.bool false, AV.int IntKind.u32 (0 : Int), AV.int IntKind.i64 (0 : Int)], AV.nilsl, AV.int IntKind.i64 (3 : Int)]) [] []))
   (∀ (n14 : Int),
    (n14 = IntKind.i64.wrap (v_6 + (1 : Int))) →
    ((-9223372036854775808 : Int) ≤ n14 ∧ n14 ≤ (9223372036854775807 : Int)) →
    ∃ (v' : Int),
    (got = got) ∧
    (n14 = v') ∧
    (an = an) ∧
    (la = la) ∧
    (ag = ag) ∧
    (false = false) ∧
    ((0 : Int) = (0 : Int)) ∧
    ((0 : Int) = (0 : Int)) ∧
    (
    (
     ((0 : Int) ≤ v') ∧
     (v' ≤ (↑got.length : Int))) ∧
    ∀ (j_17 : Nat),
    (j_17 < v'.toNat) →
    ((got.getD j_17 (dflt (8 : Nat))).body.length ≤ (512 : Nat))) ∧
    (((↑got.length : Int) - v').toNat < ((↑got.length : Int) - v_6).toNat)))
  ((
   ∃ (v : Int × Bool × Int × Nat × List Msg),
   (got = got) ∧
   ((0 : Nat) = (0 : Nat)) ∧
   ((0 : Nat) = v.snd.snd.snd.fst) ∧
   ((0 : Int) = v.fst) ∧
   (an = v.snd.fst) ∧
   (la = v.snd.snd.fst) ∧
   (ag = ag) ∧
   (false = false) ∧
   ((0 : Int) = (0 : Int)) ∧
   ((0 : Int) = (0 : Int)) ∧
   ([] = v.snd.snd.snd.snd) ∧
   (
    ((0 : Int) ≤ v.fst) ∧
    (v.fst ≤ (↑got.length : Int))) ∧
   (
    ((0 : Int) ≤ v.snd.snd.fst) ∧
    (v.snd.snd.fst ≤ (4294967295 : Int))) ∧
   ((v.snd.fst, v.snd.snd.fst) = stk (an, la) (List.take v.fst.toNat got)) ∧
   (v.snd.snd.snd.snd = tk (an, la) (List.take v.fst.toNat got)) ∧
   (v.snd.snd.snd.snd.length = v.snd.snd.snd.fst) ∧
   ((↑v.snd.snd.snd.fst : Int) ≤ v.fst) ∧
   (got.length ≤ (1024 : Nat)) ∧
   (bigB got = false)) ∧
   ∀ (v_19 : Int × Bool × Int × Nat × List Msg),
   (((0 : Int) ≤ v_19.fst ∧ v_19.fst ≤ (↑got.length : Int)) ∧ ((0 : Int) ≤ v_19.snd.snd.fst ∧ v_19.snd.snd.fst ≤ (4294967295 : Int)) ∧ (v_19.snd.fst, v_19.snd.snd.fst) = stk (an, la) (List.take v_19.fst.toNat got) ∧ v_19.snd.snd.snd.snd = tk (an, la) (List.take v_19.fst.toNat got) ∧ v_19.snd.snd.snd.snd.length = v_19.snd.snd.snd.fst ∧ (↑v_19.snd.snd.snd.fst : Int) ≤ v_19.fst ∧ got.length ≤ (1024 : Nat) ∧ bigB got = false) →
   ∀ (n21 : Int),
   (n21 = (↑got.length : Int)) →
   ((-9223372036854775808 : Int) ≤ n21 ∧ n21 ≤ (9223372036854775807 : Int)) →
   br (decide (v_19.fst < n21))
   (((0 : Int) ≤ v_19.fst) ∧
    (v_19.fst < (↑got.length : Int)) ∧
    ∀ (n24 : Int),
    (n24 = (↑(got.getD v_19.fst.toNat (dflt (8 : Nat))).seq.toNat : Int)) →
    ∀ (n26 : Int),
    (n26 = v_19.snd.snd.fst) →
    br (bif v_19.snd.fst then decide (n24 ≤ n26) else false)
    (∀ (n28 : Int),
     (n28 = IntKind.i64.wrap (v_19.fst + (1 : Int))) →
     ((-9223372036854775808 : Int) ≤ n28 ∧ n28 ≤ (9223372036854775807 : Int)) →
     ∃ (v' : Int × Bool × Int × Nat × List Msg),
     (got = got) ∧
     ((0 : Nat) = (0 : Nat)) ∧
     (v_19.snd.snd.snd.fst = v'.snd.snd.snd.fst) ∧
     (n28 = v'.fst) ∧
     (v_19.snd.fst = v'.snd.fst) ∧
     (v_19.snd.snd.fst = v'.snd.snd.fst) ∧
     (ag = ag) ∧
     (false = false) ∧
     ((0 : Int) = (0 : Int)) ∧
     ((0 : Int) = (0 : Int)) ∧
     (v_19.snd.snd.snd.snd = v'.snd.snd.snd.snd) ∧
     (
     (
      ((0 : Int) ≤ v'.fst) ∧
      (v'.fst ≤ (↑got.length : Int))) ∧
     (
      ((0 : Int) ≤ v'.snd.snd.fst) ∧
      (v'.snd.snd.fst ≤ (4294967295 : Int))) ∧
     ((v'.snd.fst, v'.snd.snd.fst) = stk (an, la) (List.take v'.fst.toNat got)) ∧
     (v'.snd.snd.snd.snd = tk (an, la) (List.take v'.fst.toNat got)) ∧
     (v'.snd.snd.snd.snd.length = v'.snd.snd.snd.fst) ∧
     ((↑v'.snd.snd.snd.fst : Int) ≤ v'.fst) ∧
     (got.length ≤ (1024 : Nat)) ∧
     (bigB got = false)) ∧
     (((↑got.length : Int) - v'.fst).toNat < ((↑got.length : Int) - v_19.fst).toNat))
    (∀ (n31 : Int),
     (n31 = (↑(got.getD v_19.fst.toNat (dflt (8 : Nat))).seq.toNat : Int)) →
     ((0 : Int) ≤ n31 ∧ n31 ≤ (4294967295 : Int)) →
     ∀ (n34 : Int),
     (n34 = (↑(got.getD v_19.fst.toNat (dflt (8 : Nat))).kind.toNat : Int)) →
     ((0 : Int) ≤ n34 ∧ n34 ≤ (255 : Int)) →
     ∀ (n37 : Int),
     (n37 = (↑(got.getD v_19.fst.toNat (dflt (8 : Nat))).seq.toNat : Int)) →
     ((0 : Int) ≤ n37 ∧ n37 ≤ (4294967295 : Int)) →
     ((got.getD v_19.fst.toNat (dflt (8 : Nat))).body.length * (1 : Nat) ≤ (140737488355328 : Nat)) ∧
     ∀ (z40 : List UInt8),
     (z40 = (got.getD v_19.fst.toNat (dflt (8 : Nat))).body) →
     ((v_19.snd.snd.snd.fst + (1 : Nat)) * (32 : Nat) ≤ (140737488355328 : Nat)) ∧
     ∀ (z42 : List Msg),
     (z42 = List.take v_19.snd.snd.snd.fst v_19.snd.snd.snd.snd ++ List.take (1 : Nat) (List.drop (0 : Nat) [{ kind := UInt8.ofNat n34.toNat, seq := UInt32.ofNat n37.toNat, body := List.take (got.getD v_19.fst.toNat (dflt (8 : Nat))).body.length (List.drop (0 : Nat) z40) : Msg }])) →
     ∀ (n44 : Int),
     (n44 = IntKind.i64.wrap (v_19.fst + (1 : Int))) →
     ((-9223372036854775808 : Int) ≤ n44 ∧ n44 ≤ (9223372036854775807 : Int)) →
     ∃ (v' : Int × Bool × Int × Nat × List Msg),
     (got = got) ∧
     ((0 : Nat) = (0 : Nat)) ∧
     (v_19.snd.snd.snd.fst + (1 : Nat) = v'.snd.snd.snd.fst) ∧
     (n44 = v'.fst) ∧
     (true = v'.snd.fst) ∧
     (n31 = v'.snd.snd.fst) ∧
     (ag = ag) ∧
     (false = false) ∧
     ((0 : Int) = (0 : Int)) ∧
     ((0 : Int) = (0 : Int)) ∧
     (z42 = v'.snd.snd.snd.snd) ∧
     (
     (
      ((0 : Int) ≤ v'.fst) ∧
      (v'.fst ≤ (↑got.length : Int))) ∧
     (
      ((0 : Int) ≤ v'.snd.snd.fst) ∧
      (v'.snd.snd.fst ≤ (4294967295 : Int))) ∧
     ((v'.snd.fst, v'.snd.snd.fst) = stk (an, la) (List.take v'.fst.toNat got)) ∧
     (v'.snd.snd.snd.snd = tk (an, la) (List.take v'.fst.toNat got)) ∧
     (v'.snd.snd.snd.snd.length = v'.snd.snd.snd.fst) ∧
     ((↑v'.snd.snd.snd.fst : Int) ≤ v'.fst) ∧
     (got.length ≤ (1024 : Nat)) ∧
     (bigB got = false)) ∧
     (((↑got.length : Int) - v'.fst).toNat < ((↑got.length : Int) - v_19.fst).toNat)))
   (∀ (n47 : Int),
    (n47 = ag) →
    ((-9223372036854775808 : Int) ≤ n47 ∧ n47 ≤ (9223372036854775807 : Int)) →
    ∀ (n50 : Int),
    (n50 = IntKind.i64.wrap (n47 + (1 : Int))) →
    ((-9223372036854775808 : Int) ≤ n50 ∧ n50 ≤ (9223372036854775807 : Int)) →
    ∀ (n53 : Int),
    (n53 = min n50 (1048576 : Int)) →
    ((-9223372036854775808 : Int) ≤ n53 ∧ n53 ≤ (9223372036854775807 : Int)) →
    ∀ (n56 : Int),
    (n56 = (↑v_19.snd.snd.snd.fst : Int)) →
    ((-9223372036854775808 : Int) ≤ n56 ∧ n56 ≤ (9223372036854775807 : Int)) →
    br (decide (n56 > (0 : Int)))
    ((k (AV.tup [AV.agg [AV.bool v_19.snd.fst, AV.int IntKind.u32 v_19.snd.snd.fst, AV.int IntKind.i64 (0 : Int)], AV.row (8 : Nat) (0 : Nat) (0 : Nat) v_19.snd.snd.snd.fst, AV.int IntKind.i64 (0 : Int)]) [] [Blk.row (8 : Nat) v_19.snd.snd.snd.snd]))
    ((k (AV.tup [AV.agg [AV.bool v_19.snd.fst, AV.int IntKind.u32 v_19.snd.snd.fst, AV.int IntKind.i64 n53], AV.row (8 : Nat) (0 : Nat) (0 : Nat) v_19.snd.snd.snd.fst, AV.int IntKind.i64 (0 : Int)]) [] [Blk.row (8 : Nat) v_19.snd.snd.snd.snd])))))) := by
 refine ⟨by exact ⟨by assumption, by assumption⟩, ?_⟩
 refine ⟨by exact ⟨by assumption, by assumption⟩, ?_⟩
 refine ⟨?_, ?_⟩
 ·
  intro h1
  exact hk.1 8 (by unfold lE; rw [if_pos (show lkBad an la ag from h1)]) (by decide)
 intro h2
 intro n1
 intro q1
 intro ⟨l1, u1⟩
 refine brd (fun c3 => ?_) (fun c3 => ?_)
 ·
  exact hk.1 4 (lE_4 h2 (by omega)) (by decide)
 ·
  refine ⟨?_, ?_⟩
  ·
   refine ⟨(0 : Int), ?_⟩
   refine ⟨by first | with_reducible rfl | rfl, ?_⟩
   refine ⟨by first | with_reducible rfl | rfl, ?_⟩
   refine ⟨by first | with_reducible rfl | rfl, ?_⟩
   refine ⟨by first | with_reducible rfl | rfl, ?_⟩
   refine ⟨by first | with_reducible rfl | rfl, ?_⟩
   refine ⟨by first | with_reducible rfl | rfl, ?_⟩
   refine ⟨by first | with_reducible rfl | rfl, ?_⟩
   refine ⟨by first | with_reducible rfl | rfl, ?_⟩
   refine ⟨by first | omega | (dsimp only; omega), ?_⟩
   intro j_4
   intro h4
   exact by show (got.getD j_4 (dflt (8 : Nat))).body.length ≤ (512 : Nat); omega
  intro v_6
  intro h5
  intro n8
  intro q8
  intro ⟨l8, u8⟩
  refine brd (fun c6 => ?_) (fun c6 => ?_)
  ·
   refine ⟨by first | omega | (dsimp only; omega), ?_⟩
   refine ⟨by first | omega | (dsimp only; omega), ?_⟩
   intro n11
   intro q11
   intro ⟨l11, u11⟩
   refine brd (fun c7 => ?_) (fun c7 => ?_)
   ·
    exact hk.1 3 (lE_3 h2 (by omega) (bigB_at got (j := v_6.toNat) (by omega) (by omega))) (by decide)
   ·
    intro n14
    intro q14
    first | (rw [wrI64] at q14; rotate_left 1; · omega) | rw [IntKind.wrap_i64] at q14
    intro ⟨l14, u14⟩
    refine ⟨n14, ?_⟩
    refine ⟨by first | with_reducible rfl | rfl, ?_⟩
    refine ⟨by first | with_reducible rfl | rfl, ?_⟩
    refine ⟨by first | with_reducible rfl | rfl, ?_⟩
    refine ⟨by first | with_reducible rfl | rfl, ?_⟩
    refine ⟨by first | with_reducible rfl | rfl, ?_⟩
    refine ⟨by first | with_reducible rfl | rfl, ?_⟩
    refine ⟨by first | with_reducible rfl | rfl, ?_⟩
    refine ⟨by first | with_reducible rfl | rfl, ?_⟩
    refine ⟨?_, ?_⟩
    ·
     refine ⟨by first | omega | (dsimp only; omega), ?_⟩
     intro j_17
     intro h8
     rcases Nat.lt_or_ge j_17 v_6.toNat with c | c
     ·
      exact h5.2 _ c
     ·
      rw [show j_17 = v_6.toNat by omega]; omega
    exact by show ((↑got.length : Int) - n14).toNat < ((↑got.length : Int) - v_6).toNat; omega
  ·
   refine ⟨?_, ?_⟩
   ·
    refine ⟨((0 : Int), an, la, (0 : Nat), []), ?_⟩
    refine ⟨by first | with_reducible rfl | rfl, ?_⟩
    refine ⟨by first | with_reducible rfl | rfl, ?_⟩
    refine ⟨by first | with_reducible rfl | rfl, ?_⟩
    refine ⟨by first | with_reducible rfl | rfl, ?_⟩
    refine ⟨by first | with_reducible rfl | rfl, ?_⟩
    refine ⟨by first | with_reducible rfl | rfl, ?_⟩
    refine ⟨by first | with_reducible rfl | rfl, ?_⟩
    refine ⟨by first | with_reducible rfl | rfl, ?_⟩
    refine ⟨by first | with_reducible rfl | rfl, ?_⟩
    refine ⟨by first | with_reducible rfl | rfl, ?_⟩
    refine ⟨by first | with_reducible rfl | rfl, ?_⟩
    refine ⟨by first | omega | (dsimp only; omega), ?_⟩
    refine ⟨by exact ⟨by assumption, by assumption⟩, ?_⟩
    refine ⟨by rfl, ?_⟩
    refine ⟨by rfl, ?_⟩
    refine ⟨by first | with_reducible rfl | rfl, ?_⟩
    refine ⟨by show (↑(0 : Nat) : Int) ≤ (0 : Int); omega, ?_⟩
    refine ⟨by show got.length ≤ (1024 : Nat); omega, ?_⟩
    exact bigB_take got fun j hj => h5.2 j (by omega)
   intro v_19
   intro h9
   intro n21
   intro q21
   intro ⟨l21, u21⟩
   refine brd (fun c10 => ?_) (fun c10 => ?_)
   ·
    refine ⟨by first | omega | (dsimp only; omega), ?_⟩
    refine ⟨by first | omega | (dsimp only; omega), ?_⟩
    intro n24
    intro q24
    intro n26
    intro q26
    refine br_intro (fun c11 => ?_) (fun c11 => ?_)
    ·
     simp at c11
     intro n28
     intro q28
     first | (rw [wrI64] at q28; rotate_left 1; · omega) | rw [IntKind.wrap_i64] at q28
     intro ⟨l28, u28⟩
     refine ⟨(n28, v_19.snd.fst, v_19.snd.snd.fst, v_19.snd.snd.snd.fst, v_19.snd.snd.snd.snd), ?_⟩
     refine ⟨by first | with_reducible rfl | rfl, ?_⟩
     refine ⟨by first | with_reducible rfl | rfl, ?_⟩
     refine ⟨by first | with_reducible rfl | rfl, ?_⟩
     refine ⟨by first | with_reducible rfl | rfl, ?_⟩
     refine ⟨by first | with_reducible rfl | rfl, ?_⟩
     refine ⟨by first | with_reducible rfl | rfl, ?_⟩
     refine ⟨by first | with_reducible rfl | rfl, ?_⟩
     refine ⟨by first | with_reducible rfl | rfl, ?_⟩
     refine ⟨by first | with_reducible rfl | rfl, ?_⟩
     refine ⟨by first | with_reducible rfl | rfl, ?_⟩
     refine ⟨by first | with_reducible rfl | rfl, ?_⟩
     refine ⟨?_, ?_⟩
     ·
      refine ⟨by first | omega | (dsimp only; omega), ?_⟩
      refine ⟨by first | omega | (dsimp only; omega), ?_⟩
      have h12 : (v_19.snd.fst, v_19.snd.snd.fst) = stk (an, la) (List.take n28.toNat got) := by
       rw [show n28 = v_19.fst + 1 by omega, stk_succ _ _ h9.1.1 (by omega), ← h9.2.2.1]
       unfold stp
       rw [if_pos (old_t c11.1 (by omega))]
      refine ⟨h12, ?_⟩
      have h13 : v_19.snd.snd.snd.snd = tk (an, la) (List.take n28.toNat got) := by
       rw [show n28 = v_19.fst + 1 by omega, tk_succ _ _ h9.1.1 (by omega), ← h9.2.2.1, if_pos (old_t c11.1 (by omega)), List.append_nil]; exact h9.2.2.2.1
      refine ⟨h13, ?_⟩
      refine ⟨by show v_19.snd.snd.snd.snd.length = v_19.snd.snd.snd.fst; omega, ?_⟩
      refine ⟨by show (↑v_19.snd.snd.snd.fst : Int) ≤ n28; omega, ?_⟩
      refine ⟨by show got.length ≤ (1024 : Nat); omega, ?_⟩
      exact h9.2.2.2.2.2.2.2
     exact by show ((↑got.length : Int) - n28).toNat < ((↑got.length : Int) - v_19.fst).toNat; omega
    ·
     simp at c11
     intro n31
     intro q31
     intro ⟨l31, u31⟩
     intro n34
     intro q34
     intro ⟨l34, u34⟩
     intro n37
     intro q37
     intro ⟨l37, u37⟩
     have h14 : (got.getD v_19.fst.toNat (dflt (8 : Nat))).body.length * (1 : Nat) ≤ (140737488355328 : Nat) := by
      have := hs.c2 v_19.fst.toNat; omega
     refine ⟨h14, ?_⟩
     intro z40
     intro qz40
     refine ⟨by first | omega | (dsimp only; omega), ?_⟩
     intro z42
     intro qz42
     intro n44
     intro q44
     first | (rw [wrI64] at q44; rotate_left 1; · omega) | rw [IntKind.wrap_i64] at q44
     intro ⟨l44, u44⟩
     refine ⟨(n44, true, n31, v_19.snd.snd.snd.fst + (1 : Nat), z42), ?_⟩
     refine ⟨by first | with_reducible rfl | rfl, ?_⟩
     refine ⟨by first | with_reducible rfl | rfl, ?_⟩
     refine ⟨by first | with_reducible rfl | rfl, ?_⟩
     refine ⟨by first | with_reducible rfl | rfl, ?_⟩
     refine ⟨by first | with_reducible rfl | rfl, ?_⟩
     refine ⟨by first | with_reducible rfl | rfl, ?_⟩
     refine ⟨by first | with_reducible rfl | rfl, ?_⟩
     refine ⟨by first | with_reducible rfl | rfl, ?_⟩
     refine ⟨by first | with_reducible rfl | rfl, ?_⟩
     refine ⟨by first | with_reducible rfl | rfl, ?_⟩
     refine ⟨by first | with_reducible rfl | rfl, ?_⟩
     refine ⟨?_, ?_⟩
     ·
      refine ⟨by first | omega | (dsimp only; omega), ?_⟩
      refine ⟨by exact ⟨by assumption, by assumption⟩, ?_⟩
      have h15 : (true, n31) = stk (an, la) (List.take n44.toNat got) := by
       rw [show n44 = v_19.fst + 1 by omega, stk_succ _ _ h9.1.1 (by omega), ← h9.2.2.1]
       unfold stp
       rw [if_neg (old_f fun a => (by have := c11 a; omega)), q31]
      refine ⟨h15, ?_⟩
      have h16 : z42 = tk (an, la) (List.take n44.toNat got) := by
       rw [show n44 = v_19.fst + 1 by omega, tk_succ _ _ h9.1.1 (by omega), ← h9.2.2.1, if_neg (old_f fun a => (by have := c11 a; omega)), qz42, q34, q37, qz40, mk_msg, List.take_of_length_le (by omega), h9.2.2.2.1]
       rfl
      refine ⟨h16, ?_⟩
      have h17 : z42.length = v_19.snd.snd.snd.fst + (1 : Nat) := by
       rw [qz42]; simp; omega
      refine ⟨h17, ?_⟩
      refine ⟨by show (↑(v_19.snd.snd.snd.fst + (1 : Nat)) : Int) ≤ n44; omega, ?_⟩
      refine ⟨by show got.length ≤ (1024 : Nat); omega, ?_⟩
      exact h9.2.2.2.2.2.2.2
     exact by show ((↑got.length : Int) - n44).toNat < ((↑got.length : Int) - v_19.fst).toNat; omega
   ·
    intro n47
    intro q47
    intro ⟨l47, u47⟩
    intro n50
    intro q50
    first | (rw [wrI64] at q50; rotate_left 1; · omega) | rw [IntKind.wrap_i64] at q50
    intro ⟨l50, u50⟩
    intro n53
    intro q53
    intro ⟨l53, u53⟩
    intro n56
    intro q56
    intro ⟨l56, u56⟩
    refine brd (fun c18 => ?_) (fun c18 => ?_)
    ·
     exact hk.2 (lE_0 h2 (by omega) h9.2.2.2.2.2.2.2) _ _ _ _ _ (by rw [h9.2.2.1, List.take_of_length_le (by omega)]) h9.2.1 (by rw [h9.2.2.2.1, List.take_of_length_le (by omega)]) h9.2.2.2.2.1 (by unfold ageN; rw [if_pos (by omega)])
    ·
     have na := nb_age h2
     exact hk.2 (lE_0 h2 (by omega) h9.2.2.2.2.2.2.2) _ _ _ _ _ (by rw [h9.2.2.1, List.take_of_length_le (by omega)]) h9.2.1 (by rw [h9.2.2.2.1, List.take_of_length_le (by omega)]) h9.2.2.2.2.1 (by unfold ageN; rw [if_neg (by omega)]; omega)

theorem rnext_ok : Holds Try.prog 16 rnextS := by
  refine fn_sound (env := mkEnv U1) (tab_ok U1_ok) Try.func16 Try.call16 fun args k h => ?_
  match args, h with
  | [.agg [.bool an, .int .u32 la, .int .i64 ag], .sl 8 got], h => exact ⟨by kernel_rfl, rnextLoops an la ag got, fun _ _ => none, .cast (by kernel_rfl) (rnext_vc an la h.1.1 h.1.2 ag h.2.1.1 h.2.1.2 got h.2.2.1 k h.2.2.2)⟩
end Go.Proofs.Ytpkfadgennejnaa

