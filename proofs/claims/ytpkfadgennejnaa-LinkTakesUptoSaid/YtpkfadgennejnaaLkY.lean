import Derived.Test.YtpkfadgennejnaaLkX
namespace Go.Proofs.Ytpkfadgennejnaa
open Go Go.Eng Go.Lk Go.Proofs
set_option linter.unusedVariables false
theorem T1N_ok (yb : Nat) : TabOkN yb Try.prog T1 := ⟨cloneR_ok.n yb, check_ok.n yb, trivial⟩
set_option maxHeartbeats 2000000 in
theorem nextY_vc (yb : Nat) (an : Bool) (la : Int) (la0 : (0 : Int) ≤ la) (la1 : la ≤ (4294967295 : Int)) (ag : Int) (ag0 : (-9223372036854775808 : Int) ≤ ag) (ag1 : ag ≤ (9223372036854775807 : Int)) (got : List Msg) (k : AV → List (Option Blk) → List Blk → Prop) (hk : (∀ (e : Int), e = lE an la ag got → e ≠ (0 : Int) → k (AV.tup [AV.agg [AV.bool false, AV.int IntKind.u32 (0 : Int), AV.int IntKind.i64 (0 : Int)], AV.nilsl, AV.int IntKind.i64 e]) [] []) ∧ (lE an la ag got = (0 : Int) → ∀ (b : Bool) (l a : Int) (ys : List YMsg) (n : Nat), (b, l) = stk (an, la) got → inK IntKind.u32 l → ys = List.map (yng yb) (tk (an, la) got) → ys.length = n → a = ageN ag n → k (AV.tup [AV.agg [AV.bool b, AV.int IntKind.u32 l, AV.int IntKind.i64 a], AV.row (12 : Nat) (0 : Nat) (0 : Nat) n, AV.int IntKind.i64 (0 : Int)]) [] [Blk.row (12 : Nat) ys])) :
 (
 ((0 : Int) ≤ la) ∧
 (la ≤ (4294967295 : Int))) ∧
 (
 ((-9223372036854775808 : Int) ≤ ag) ∧
 (ag ≤ (9223372036854775807 : Int))) ∧
 ∀ (e_1 : Int),
 (e_1 = if lkBad an la ag then (8 : Int) else (0 : Int)) →
 br (e_1 != (0 : Int))
 ((k (AV.tup [AV.agg [AV.bool false, AV.int IntKind.u32 (0 : Int), AV.int IntKind.i64 (0 : Int)], AV.nilsl, AV.int IntKind.i64 e_1]) [] []))
 (∀ (n3 : Int),
  (n3 = (↑got.length : Int)) →
  ((-9223372036854775808 : Int) ≤ n3 ∧ n3 ≤ (9223372036854775807 : Int)) →
  br (decide (n3 > (1024 : Int)))
  ((k (AV.tup [AV.agg [AV.bool false, AV.int IntKind.u32 (0 : Int), AV.int IntKind.i64 (0 : Int)], AV.nilsl, AV.int IntKind.i64 (4 : Int)]) [] []))
  (∀ (n6 : Int),
   (n6 = (↑got.length : Int)) →
   ((-9223372036854775808 : Int) ≤ n6 ∧ n6 ≤ (9223372036854775807 : Int)) →
   (
   ∃ (v : Int),
   (got = got) ∧
   (got = got) ∧
   (n6 = (↑got.length : Int)) ∧
   ((0 : Int) = v) ∧
   (an = an) ∧
   (la = la) ∧
   (ag = ag) ∧
   (false = false) ∧
   ((0 : Int) = (0 : Int)) ∧
   ((0 : Int) = (0 : Int)) ∧
   (
    ((0 : Int) ≤ v) ∧
    (v ≤ (↑got.length : Int))) ∧
   ∀ (j_9 : Nat),
   (j_9 < v.toNat) →
   ((got.getD j_9 (dflt (8 : Nat))).body.length ≤ (512 : Nat))) ∧
   ∀ (v_11 : Int),
   (((0 : Int) ≤ v_11 ∧ v_11 ≤ (↑got.length : Int)) ∧ ∀ (j : Nat), j < v_11.toNat → (got.getD j (dflt (8 : Nat))).body.length ≤ (512 : Nat)) →
   br (decide (v_11 < (↑got.length : Int)))
   (((0 : Int) ≤ v_11) ∧
    (v_11 < (↑got.length : Int)) ∧
    ∀ (n13 : Int),
    (n13 = (↑(got.getD v_11.toNat (dflt (8 : Nat))).body.length : Int)) →
    ((-9223372036854775808 : Int) ≤ n13 ∧ n13 ≤ (9223372036854775807 : Int)) →
    br (decide (n13 > (512 : Int)))
    ((k (AV.tup [AV.agg [AV.bool false, AV.int IntKind.u32 (0 : Int), AV.int IntKind.i64 (0 : Int)], AV.nilsl, AV.int IntKind.i64 (3 : Int)]) [] []))
    (∀ (n16 : Int),
     (n16 = IntKind.i64.wrap (v_11 + (1 : Int))) →
     ((-9223372036854775808 : Int) ≤ n16 ∧ n16 ≤ (9223372036854775807 : Int)) →
     ∃ (v' : Int),
     (got = got) ∧
     (got = got) ∧
     ((↑got.length : Int) = (↑got.length : Int)) ∧
     (n16 = v') ∧
     (an = an) ∧
     (la = la) ∧
     (ag = ag) ∧
     (false = false) ∧
     ((0 : Int) = (0 : Int)) ∧
     ((0 : Int) = (0 : Int)) ∧
     (
     (
      ((0 : Int) ≤ v') ∧
      (v' ≤ (↑got.length : Int))) ∧
     ∀ (j_19 : Nat),
     (j_19 < v'.toNat) →
     ((got.getD j_19 (dflt (8 : Nat))).body.length ≤ (512 : Nat))) ∧
     (((↑got.length : Int) - v').toNat < ((↑got.length : Int) - v_11).toNat)))
   (∀ (n21 : Int),
    (n21 = (↑got.length : Int)) →
    ((-9223372036854775808 : Int) ≤ n21 ∧ n21 ≤ (9223372036854775807 : Int)) →
    (
    ∃ (v : Int × Bool × Int × Nat × List YMsg),
    ((0 : Nat) = (0 : Nat)) ∧
    ((0 : Nat) = v.snd.snd.snd.fst) ∧
    (got = got) ∧
    (n21 = (↑got.length : Int)) ∧
    ((0 : Int) = v.fst) ∧
    (an = v.snd.fst) ∧
    (la = v.snd.snd.fst) ∧
    (ag = ag) ∧
    (false = false) ∧
    ((0 : Int) = (0 : Int)) ∧
    ((0 : Int) = (0 : Int)) ∧
    ([] = v.snd.snd.snd.snd) ∧
    (
     ((0 : Int) ≤ v.fst) ∧
     (v.fst ≤ (↑got.length : Int))) ∧
    (
     ((0 : Int) ≤ v.snd.snd.fst) ∧
     (v.snd.snd.fst ≤ (4294967295 : Int))) ∧
    ((v.snd.fst, v.snd.snd.fst) = stk (an, la) (List.take v.fst.toNat got)) ∧
    (v.snd.snd.snd.snd = List.map (yng yb) (tk (an, la) (List.take v.fst.toNat got))) ∧
    (v.snd.snd.snd.snd.length = v.snd.snd.snd.fst) ∧
    ((↑v.snd.snd.snd.fst : Int) ≤ v.fst) ∧
    (got.length ≤ (1024 : Nat)) ∧
    (bigB got = false)) ∧
    ∀ (v_24 : Int × Bool × Int × Nat × List YMsg),
    (((0 : Int) ≤ v_24.fst ∧ v_24.fst ≤ (↑got.length : Int)) ∧ ((0 : Int) ≤ v_24.snd.snd.fst ∧ v_24.snd.snd.fst ≤ (4294967295 : Int)) ∧ (v_24.snd.fst, v_24.snd.snd.fst) = stk (an, la) (List.take v_24.fst.toNat got) ∧ v_24.snd.snd.snd.snd = List.map (yng yb) (tk (an, la) (List.take v_24.fst.toNat got)) ∧ v_24.snd.snd.snd.snd.length = v_24.snd.snd.snd.fst ∧ (↑v_24.snd.snd.snd.fst : Int) ≤ v_24.fst ∧ got.length ≤ (1024 : Nat) ∧ bigB got = false) →
    br (decide (v_24.fst < (↑got.length : Int)))
    (((0 : Int) ≤ v_24.fst) ∧
     (v_24.fst < (↑got.length : Int)) ∧
     ∀ (n26 : Int),
     (n26 = (↑(got.getD v_24.fst.toNat (dflt (8 : Nat))).seq.toNat : Int)) →
     ∀ (n28 : Int),
     (n28 = v_24.snd.snd.fst) →
     br (bif v_24.snd.fst then decide (n26 ≤ n28) else false)
     (∀ (n30 : Int),
      (n30 = IntKind.i64.wrap (v_24.fst + (1 : Int))) →
      ((-9223372036854775808 : Int) ≤ n30 ∧ n30 ≤ (9223372036854775807 : Int)) →
      ∃ (v' : Int × Bool × Int × Nat × List YMsg),
      ((0 : Nat) = (0 : Nat)) ∧
      (v_24.snd.snd.snd.fst = v'.snd.snd.snd.fst) ∧
      (got = got) ∧
      ((↑got.length : Int) = (↑got.length : Int)) ∧
      (n30 = v'.fst) ∧
      (v_24.snd.fst = v'.snd.fst) ∧
      (v_24.snd.snd.fst = v'.snd.snd.fst) ∧
      (ag = ag) ∧
      (false = false) ∧
      ((0 : Int) = (0 : Int)) ∧
      ((0 : Int) = (0 : Int)) ∧
      (v_24.snd.snd.snd.snd = v'.snd.snd.snd.snd) ∧
      (
      (
       ((0 : Int) ≤ v'.fst) ∧
       (v'.fst ≤ (↑got.length : Int))) ∧
      (
       ((0 : Int) ≤ v'.snd.snd.fst) ∧
       (v'.snd.snd.fst ≤ (4294967295 : Int))) ∧
      ((v'.snd.fst, v'.snd.snd.fst) = stk (an, la) (List.take v'.fst.toNat got)) ∧
      (v'.snd.snd.snd.snd = List.map (yng yb) (tk (an, la) (List.take v'.fst.toNat got))) ∧
      (v'.snd.snd.snd.snd.length = v'.snd.snd.snd.fst) ∧
      ((↑v'.snd.snd.snd.fst : Int) ≤ v'.fst) ∧
      (got.length ≤ (1024 : Nat)) ∧
      (bigB got = false)) ∧
      (((↑got.length : Int) - v'.fst).toNat < ((↑got.length : Int) - v_24.fst).toNat))
     ((
      (
       ∀ (n33 : Int),
       (n33 = (↑(got.getD v_24.fst.toNat (dflt (8 : Nat))).seq.toNat : Int)) →
       ((0 : Int) ≤ n33 ∧ n33 ≤ (4294967295 : Int)) →
       ((got.getD v_24.fst.toNat (dflt (8 : Nat))).body.length ≤ (1000000 : Nat)) ∧
       ((v_24.snd.snd.snd.fst + (1 : Nat)) * (32 : Nat) ≤ (140737488355328 : Nat)) ∧
       ∀ (z36 : List YMsg),
       (z36 = List.take v_24.snd.snd.snd.fst v_24.snd.snd.snd.snd ++ List.take (1 : Nat) (List.drop (0 : Nat) [{ nb := yb, kind := UInt8.ofNat (↑(got.getD v_24.fst.toNat (dflt (8 : Nat))).kind.toNat : Int).toNat, seq := UInt32.ofNat (↑(got.getD v_24.fst.toNat (dflt (8 : Nat))).seq.toNat : Int).toNat, body := List.take (got.getD v_24.fst.toNat (dflt (8 : Nat))).body.length (List.drop (0 : Nat) (got.getD v_24.fst.toNat (dflt (8 : Nat))).body) : YMsg }])) →
       ∀ (n38 : Int),
       (n38 = IntKind.i64.wrap (v_24.fst + (1 : Int))) →
       ((-9223372036854775808 : Int) ≤ n38 ∧ n38 ≤ (9223372036854775807 : Int)) →
       ∃ (v' : Int × Bool × Int × Nat × List YMsg),
       ((0 : Nat) = (0 : Nat)) ∧
       (v_24.snd.snd.snd.fst + (1 : Nat) = v'.snd.snd.snd.fst) ∧
       (got = got) ∧
       ((↑got.length : Int) = (↑got.length : Int)) ∧
       (n38 = v'.fst) ∧
       (true = v'.snd.fst) ∧
       (n33 = v'.snd.snd.fst) ∧
       (ag = ag) ∧
       (false = false) ∧
       ((0 : Int) = (0 : Int)) ∧
       ((0 : Int) = (0 : Int)) ∧
       (z36 = v'.snd.snd.snd.snd) ∧
       (
       (
        ((0 : Int) ≤ v'.fst) ∧
        (v'.fst ≤ (↑got.length : Int))) ∧
       (
        ((0 : Int) ≤ v'.snd.snd.fst) ∧
        (v'.snd.snd.fst ≤ (4294967295 : Int))) ∧
       ((v'.snd.fst, v'.snd.snd.fst) = stk (an, la) (List.take v'.fst.toNat got)) ∧
       (v'.snd.snd.snd.snd = List.map (yng yb) (tk (an, la) (List.take v'.fst.toNat got))) ∧
       (v'.snd.snd.snd.snd.length = v'.snd.snd.snd.fst) ∧
       ((↑v'.snd.snd.snd.fst : Int) ≤ v'.fst) ∧
       (got.length ≤ (1024 : Nat)) ∧
       (bigB got = false)) ∧
       (((↑got.length : Int) - v'.fst).toNat < ((↑got.length : Int) - v_24.fst).toNat)) ∧
      ∀ (n41 : Int),
      (n41 = (↑(got.getD v_24.fst.toNat (dflt (8 : Nat))).seq.toNat : Int)) →
      ((0 : Int) ≤ n41 ∧ n41 ≤ (4294967295 : Int)) →
      ((got.getD v_24.fst.toNat (dflt (8 : Nat))).body.length ≤ (1000000 : Nat)) ∧
      ((v_24.snd.snd.snd.fst + (1 : Nat)) * (32 : Nat) ≤ (140737488355328 : Nat)) ∧
      ∀ (z44 : List YMsg),
      (z44 = List.take v_24.snd.snd.snd.fst v_24.snd.snd.snd.snd ++ List.take (1 : Nat) (List.drop (0 : Nat) [{ nb := yb, kind := UInt8.ofNat (↑(got.getD v_24.fst.toNat (dflt (8 : Nat))).kind.toNat : Int).toNat, seq := UInt32.ofNat (↑(got.getD v_24.fst.toNat (dflt (8 : Nat))).seq.toNat : Int).toNat, body := List.take (got.getD v_24.fst.toNat (dflt (8 : Nat))).body.length (List.drop (0 : Nat) (got.getD v_24.fst.toNat (dflt (8 : Nat))).body) : YMsg }])) →
      ∀ (n46 : Int),
      (n46 = IntKind.i64.wrap (v_24.fst + (1 : Int))) →
      ((-9223372036854775808 : Int) ≤ n46 ∧ n46 ≤ (9223372036854775807 : Int)) →
      ∃ (v' : Int × Bool × Int × Nat × List YMsg),
      ((0 : Nat) = (0 : Nat)) ∧
      (v_24.snd.snd.snd.fst + (1 : Nat) = v'.snd.snd.snd.fst) ∧
      (got = got) ∧
      ((↑got.length : Int) = (↑got.length : Int)) ∧
      (n46 = v'.fst) ∧
      (true = v'.snd.fst) ∧
      (n41 = v'.snd.snd.fst) ∧
      (ag = ag) ∧
      (false = false) ∧
      ((0 : Int) = (0 : Int)) ∧
      ((0 : Int) = (0 : Int)) ∧
      (z44 = v'.snd.snd.snd.snd) ∧
      (
       (
       ((0 : Int) ≤ v'.fst) ∧
       (v'.fst ≤ (↑got.length : Int))) ∧
       (
       ((0 : Int) ≤ v'.snd.snd.fst) ∧
       (v'.snd.snd.fst ≤ (4294967295 : Int))) ∧
       ((v'.snd.fst, v'.snd.snd.fst) = stk (an, la) (List.take v'.fst.toNat got)) ∧
       (v'.snd.snd.snd.snd = List.map (yng yb) (tk (an, la) (List.take v'.fst.toNat got))) ∧
       (v'.snd.snd.snd.snd.length = v'.snd.snd.snd.fst) ∧
       ((↑v'.snd.snd.snd.fst : Int) ≤ v'.fst) ∧
       (got.length ≤ (1024 : Nat)) ∧
       (bigB got = false)) ∧
      (((↑got.length : Int) - v'.fst).toNat < ((↑got.length : Int) - v_24.fst).toNat)) ∧
      ∀ (n49 : Int),
      (n49 = (↑(got.getD v_24.fst.toNat (dflt (8 : Nat))).seq.toNat : Int)) →
      ((0 : Int) ≤ n49 ∧ n49 ≤ (4294967295 : Int)) →
      ((got.getD v_24.fst.toNat (dflt (8 : Nat))).body.length ≤ (1000000 : Nat)) ∧
      ((v_24.snd.snd.snd.fst + (1 : Nat)) * (32 : Nat) ≤ (140737488355328 : Nat)) ∧
      ∀ (z52 : List YMsg),
      (z52 = List.take v_24.snd.snd.snd.fst v_24.snd.snd.snd.snd ++ List.take (1 : Nat) (List.drop (0 : Nat) [{ nb := yb, kind := UInt8.ofNat (↑(got.getD v_24.fst.toNat (dflt (8 : Nat))).kind.toNat : Int).toNat, seq := UInt32.ofNat (↑(got.getD v_24.fst.toNat (dflt (8 : Nat))).seq.toNat : Int).toNat, body := List.take (got.getD v_24.fst.toNat (dflt (8 : Nat))).body.length (List.drop (0 : Nat) (got.getD v_24.fst.toNat (dflt (8 : Nat))).body) : YMsg }])) →
      ∀ (n54 : Int),
      (n54 = IntKind.i64.wrap (v_24.fst + (1 : Int))) →
      ((-9223372036854775808 : Int) ≤ n54 ∧ n54 ≤ (9223372036854775807 : Int)) →
      ∃ (v' : Int × Bool × Int × Nat × List YMsg),
      ((0 : Nat) = (0 : Nat)) ∧
      (v_24.snd.snd.snd.fst + (1 : Nat) = v'.snd.snd.snd.fst) ∧
      (got = got) ∧
      ((↑got.length : Int) = (↑got.length : Int)) ∧
      (n54 = v'.fst) ∧
      (true = v'.snd.fst) ∧
      (n49 = v'.snd.snd.fst) ∧
      (ag = ag) ∧
      (false = false) ∧
      ((0 : Int) = (0 : Int)) ∧
      ((0 : Int) = (0 : Int)) ∧
      (z52 = v'.snd.snd.snd.snd) ∧
      (
      (
       ((0 : Int) ≤ v'.fst) ∧
       (v'.fst ≤ (↑got.length : Int))) ∧
      (
       ((0 : Int) ≤ v'.snd.snd.fst) ∧
       (v'.snd.snd.fst ≤ (4294967295 : Int))) ∧
      ((v'.snd.fst, v'.snd.snd.fst) = stk (an, la) (List.take v'.fst.toNat got)) ∧
      (v'.snd.snd.snd.snd = List.map (yng yb) (tk (an, la) (List.take v'.fst.toNat got))) ∧
      (v'.snd.snd.snd.snd.length = v'.snd.snd.snd.fst) ∧
      ((↑v'.snd.snd.snd.fst : Int) ≤ v'.fst) ∧
      (got.length ≤ (1024 : Nat)) ∧
      (bigB got = false)) ∧
      (((↑got.length : Int) - v'.fst).toNat < ((↑got.length : Int) - v_24.fst).toNat)))
    (∀ (n57 : Int),
     (n57 = ag) →
     ((-9223372036854775808 : Int) ≤ n57 ∧ n57 ≤ (9223372036854775807 : Int)) →
     ∀ (n60 : Int),
     (n60 = IntKind.i64.wrap (n57 + (1 : Int))) →
     ((-9223372036854775808 : Int) ≤ n60 ∧ n60 ≤ (9223372036854775807 : Int)) →
     ∀ (n63 : Int),
     (n63 = min n60 (1048576 : Int)) →
     ((-9223372036854775808 : Int) ≤ n63 ∧ n63 ≤ (9223372036854775807 : Int)) →
     ∀ (n66 : Int),
     (n66 = (↑v_24.snd.snd.snd.fst : Int)) →
     ((-9223372036854775808 : Int) ≤ n66 ∧ n66 ≤ (9223372036854775807 : Int)) →
     br (decide (n66 > (0 : Int)))
     ((k (AV.tup [AV.agg [AV.bool v_24.snd.fst, AV.int IntKind.u32 v_24.snd.snd.fst, AV.int IntKind.i64 (0 : Int)], AV.row (12 : Nat) (0 : Nat) (0 : Nat) v_24.snd.snd.snd.fst, AV.int IntKind.i64 (0 : Int)]) [] [Blk.row (12 : Nat) v_24.snd.snd.snd.snd]))
     ((k (AV.tup [AV.agg [AV.bool v_24.snd.fst, AV.int IntKind.u32 v_24.snd.snd.fst, AV.int IntKind.i64 n63], AV.row (12 : Nat) (0 : Nat) (0 : Nat) v_24.snd.snd.snd.fst, AV.int IntKind.i64 (0 : Int)]) [] [Blk.row (12 : Nat) v_24.snd.snd.snd.snd])))))) := by
 refine ⟨by exact ⟨by assumption, by assumption⟩, ?_⟩
 refine ⟨by exact ⟨by assumption, by assumption⟩, ?_⟩
 intro e_1
 intro h1
 refine br_intro (fun c2 => ?_) (fun c2 => ?_)
 ·
  simp at c2
  exact hk.1 e_1 (lE_1 h1 c2) c2
 ·
  simp at c2
  intro n3
  intro q3
  intro ⟨l3, u3⟩
  refine brd (fun c3 => ?_) (fun c3 => ?_)
  ·
   exact hk.1 4 (lE_4 (nb h1 c2) (by omega)) (by decide)
  ·
   intro n6
   intro q6
   intro ⟨l6, u6⟩
   refine ⟨?_, ?_⟩
   ·
    refine ⟨(0 : Int), ?_⟩
    refine ⟨by first | with_reducible rfl | rfl, ?_⟩
    refine ⟨by first | with_reducible rfl | rfl, ?_⟩
    refine ⟨by show n6 = (↑got.length : Int); assumption, ?_⟩
    refine ⟨by first | with_reducible rfl | rfl, ?_⟩
    refine ⟨by first | with_reducible rfl | rfl, ?_⟩
    refine ⟨by first | with_reducible rfl | rfl, ?_⟩
    refine ⟨by first | with_reducible rfl | rfl, ?_⟩
    refine ⟨by first | with_reducible rfl | rfl, ?_⟩
    refine ⟨by first | with_reducible rfl | rfl, ?_⟩
    refine ⟨by first | with_reducible rfl | rfl, ?_⟩
    refine ⟨by first | omega | (dsimp only; omega), ?_⟩
    intro j_9
    intro h4
    exact by show (got.getD j_9 (dflt (8 : Nat))).body.length ≤ (512 : Nat); omega
   intro v_11
   intro h5
   refine brd (fun c6 => ?_) (fun c6 => ?_)
   ·
    refine ⟨by first | omega | (dsimp only; omega), ?_⟩
    refine ⟨by assumption, ?_⟩
    intro n13
    intro q13
    intro ⟨l13, u13⟩
    refine brd (fun c7 => ?_) (fun c7 => ?_)
    ·
     exact hk.1 3 (lE_3 (nb h1 c2) (by omega) (bigB_at got (j := v_11.toNat) (by omega) (by omega))) (by decide)
    ·
     intro n16
     intro q16
     rw [IntKind.wrap_i64] at q16
     intro ⟨l16, u16⟩
     refine ⟨n16, ?_⟩
     refine ⟨by first | with_reducible rfl | rfl, ?_⟩
     refine ⟨by first | with_reducible rfl | rfl, ?_⟩
     refine ⟨by first | with_reducible rfl | rfl, ?_⟩
     refine ⟨by first | with_reducible rfl | rfl, ?_⟩
     refine ⟨by first | with_reducible rfl | rfl, ?_⟩
     refine ⟨by first | with_reducible rfl | rfl, ?_⟩
     refine ⟨by first | with_reducible rfl | rfl, ?_⟩
     refine ⟨by first | with_reducible rfl | rfl, ?_⟩
     refine ⟨by first | with_reducible rfl | rfl, ?_⟩
     refine ⟨by first | with_reducible rfl | rfl, ?_⟩
     refine ⟨?_, ?_⟩
     ·
      refine ⟨by first | omega | (dsimp only; omega), ?_⟩
      intro j_19
      intro h8
      rcases Nat.lt_or_ge j_19 v_11.toNat with c | c
      ·
       exact h5.2 _ c
      ·
       rw [show j_19 = v_11.toNat by omega]; omega
     exact by show ((↑got.length : Int) - n16).toNat < ((↑got.length : Int) - v_11).toNat; omega
   ·
    intro n21
    intro q21
    intro ⟨l21, u21⟩
    refine ⟨?_, ?_⟩
    ·
     refine ⟨((0 : Int), an, la, (0 : Nat), []), ?_⟩
     refine ⟨by first | with_reducible rfl | rfl, ?_⟩
     refine ⟨by first | with_reducible rfl | rfl, ?_⟩
     refine ⟨by first | with_reducible rfl | rfl, ?_⟩
     refine ⟨by show n21 = (↑got.length : Int); assumption, ?_⟩
     refine ⟨by first | with_reducible rfl | rfl, ?_⟩
     refine ⟨by first | with_reducible rfl | rfl, ?_⟩
     refine ⟨by first | with_reducible rfl | rfl, ?_⟩
     refine ⟨by first | with_reducible rfl | rfl, ?_⟩
     refine ⟨by first | with_reducible rfl | rfl, ?_⟩
     refine ⟨by first | with_reducible rfl | rfl, ?_⟩
     refine ⟨by first | with_reducible rfl | rfl, ?_⟩
     refine ⟨by first | with_reducible rfl | rfl, ?_⟩
     refine ⟨by first | omega | (dsimp only; omega), ?_⟩
     refine ⟨by exact ⟨by assumption, by assumption⟩, ?_⟩
     refine ⟨by rfl, ?_⟩
     refine ⟨by rfl, ?_⟩
     refine ⟨by first | with_reducible rfl | rfl, ?_⟩
     refine ⟨by show (↑(0 : Nat) : Int) ≤ (0 : Int); omega, ?_⟩
     refine ⟨by show got.length ≤ (1024 : Nat); omega, ?_⟩
     exact bigB_take got fun j hj => h5.2 j (by omega)
    intro v_24
    intro h9
    refine brd (fun c10 => ?_) (fun c10 => ?_)
    ·
     refine ⟨by first | omega | (dsimp only; omega), ?_⟩
     refine ⟨by assumption, ?_⟩
     intro n26
     intro q26
     intro n28
     intro q28
     refine br_intro (fun c11 => ?_) (fun c11 => ?_)
     ·
      simp at c11
      intro n30
      intro q30
      rw [IntKind.wrap_i64] at q30
      intro ⟨l30, u30⟩
      refine ⟨(n30, v_24.snd.fst, v_24.snd.snd.fst, v_24.snd.snd.snd.fst, v_24.snd.snd.snd.snd), ?_⟩
      refine ⟨by first | with_reducible rfl | rfl, ?_⟩
      refine ⟨by first | with_reducible rfl | rfl, ?_⟩
      refine ⟨by first | with_reducible rfl | rfl, ?_⟩
      refine ⟨by first | with_reducible rfl | rfl, ?_⟩
      refine ⟨by first | with_reducible rfl | rfl, ?_⟩
      refine ⟨by first | with_reducible rfl | rfl, ?_⟩
      refine ⟨by first | with_reducible rfl | rfl, ?_⟩
      refine ⟨by first | with_reducible rfl | rfl, ?_⟩
      refine ⟨by first | with_reducible rfl | rfl, ?_⟩
      refine ⟨by first | with_reducible rfl | rfl, ?_⟩
      refine ⟨by first | with_reducible rfl | rfl, ?_⟩
      refine ⟨by first | with_reducible rfl | rfl, ?_⟩
      refine ⟨?_, ?_⟩
      ·
       refine ⟨by first | omega | (dsimp only; omega), ?_⟩
       refine ⟨by first | omega | (dsimp only; omega), ?_⟩
       have h12 : (v_24.snd.fst, v_24.snd.snd.fst) = stk (an, la) (List.take n30.toNat got) := by
        rw [show n30 = v_24.fst + 1 by omega, stk_succ _ _ h9.1.1 c10, ← h9.2.2.1]
        unfold stp
        rw [if_pos (old_t c11.1 (by omega))]
       refine ⟨h12, ?_⟩
       have h13 : v_24.snd.snd.snd.snd = List.map (yng yb) (tk (an, la) (List.take n30.toNat got)) := by
        rw [show n30 = v_24.fst + 1 by omega, tk_succ _ _ h9.1.1 c10, ← h9.2.2.1, if_pos (old_t c11.1 (by omega)), List.append_nil]; exact h9.2.2.2.1
       refine ⟨h13, ?_⟩
       refine ⟨by show v_24.snd.snd.snd.snd.length = v_24.snd.snd.snd.fst; omega, ?_⟩
       refine ⟨by show (↑v_24.snd.snd.snd.fst : Int) ≤ n30; omega, ?_⟩
       refine ⟨by show got.length ≤ (1024 : Nat); omega, ?_⟩
       exact h9.2.2.2.2.2.2.2
      exact by show ((↑got.length : Int) - n30).toNat < ((↑got.length : Int) - v_24.fst).toNat; omega
     ·
      simp at c11
      refine ⟨?_, ?_⟩
      ·
       refine ⟨?_, ?_⟩
       ·
        intro n33
        intro q33
        intro ⟨l33, u33⟩
        have h14 : (got.getD v_24.fst.toNat (dflt (8 : Nat))).body.length ≤ (1000000 : Nat) := by
         have := bigB_none h9.2.2.2.2.2.2.2 (j := v_24.fst.toNat) (by omega)
         omega
        refine ⟨h14, ?_⟩
        refine ⟨by first | omega | (dsimp only; omega), ?_⟩
        intro z36
        intro qz36
        intro n38
        intro q38
        rw [IntKind.wrap_i64] at q38
        intro ⟨l38, u38⟩
        refine ⟨(n38, true, n33, v_24.snd.snd.snd.fst + (1 : Nat), z36), ?_⟩
        refine ⟨by first | with_reducible rfl | rfl, ?_⟩
        refine ⟨by first | with_reducible rfl | rfl, ?_⟩
        refine ⟨by first | with_reducible rfl | rfl, ?_⟩
        refine ⟨by first | with_reducible rfl | rfl, ?_⟩
        refine ⟨by first | with_reducible rfl | rfl, ?_⟩
        refine ⟨by first | with_reducible rfl | rfl, ?_⟩
        refine ⟨by first | with_reducible rfl | rfl, ?_⟩
        refine ⟨by first | with_reducible rfl | rfl, ?_⟩
        refine ⟨by first | with_reducible rfl | rfl, ?_⟩
        refine ⟨by first | with_reducible rfl | rfl, ?_⟩
        refine ⟨by first | with_reducible rfl | rfl, ?_⟩
        refine ⟨by first | with_reducible rfl | rfl, ?_⟩
        refine ⟨?_, ?_⟩
        ·
         refine ⟨by first | omega | (dsimp only; omega), ?_⟩
         refine ⟨by exact ⟨by assumption, by assumption⟩, ?_⟩
         have h15 : (true, n33) = stk (an, la) (List.take n38.toNat got) := by
          rw [show n38 = v_24.fst + 1 by omega, stk_succ _ _ h9.1.1 c10, ← h9.2.2.1]
          unfold stp
          rw [if_neg (old_f fun a => (by have := c11 a; omega)), q33]
         refine ⟨h15, ?_⟩
         have h16 : z36 = List.map (yng yb) (tk (an, la) (List.take n38.toNat got)) := by
          rw [show n38 = v_24.fst + 1 by omega, tk_succ _ _ h9.1.1 c10, ← h9.2.2.1, if_neg (old_f fun a => (by have := c11 a; omega)), qz36, mk_yng, List.take_of_length_le (by omega), h9.2.2.2.1]
          simp
         refine ⟨h16, ?_⟩
         have h17 : z36.length = v_24.snd.snd.snd.fst + (1 : Nat) := by
          rw [qz36]; simp; omega
         refine ⟨h17, ?_⟩
         refine ⟨by show (↑(v_24.snd.snd.snd.fst + (1 : Nat)) : Int) ≤ n38; omega, ?_⟩
         refine ⟨by show got.length ≤ (1024 : Nat); omega, ?_⟩
         exact h9.2.2.2.2.2.2.2
        exact by show ((↑got.length : Int) - n38).toNat < ((↑got.length : Int) - v_24.fst).toNat; omega
       intro n41
       intro q41
       intro ⟨l41, u41⟩
       have h18 : (got.getD v_24.fst.toNat (dflt (8 : Nat))).body.length ≤ (1000000 : Nat) := by
        have := bigB_none h9.2.2.2.2.2.2.2 (j := v_24.fst.toNat) (by omega)
        omega
       refine ⟨h18, ?_⟩
       refine ⟨by first | omega | (dsimp only; omega), ?_⟩
       intro z44
       intro qz44
       intro n46
       intro q46
       rw [IntKind.wrap_i64] at q46
       intro ⟨l46, u46⟩
       refine ⟨(n46, true, n41, v_24.snd.snd.snd.fst + (1 : Nat), z44), ?_⟩
       refine ⟨by first | with_reducible rfl | rfl, ?_⟩
       refine ⟨by first | with_reducible rfl | rfl, ?_⟩
       refine ⟨by first | with_reducible rfl | rfl, ?_⟩
       refine ⟨by first | with_reducible rfl | rfl, ?_⟩
       refine ⟨by first | with_reducible rfl | rfl, ?_⟩
       refine ⟨by first | with_reducible rfl | rfl, ?_⟩
       refine ⟨by first | with_reducible rfl | rfl, ?_⟩
       refine ⟨by first | with_reducible rfl | rfl, ?_⟩
       refine ⟨by first | with_reducible rfl | rfl, ?_⟩
       refine ⟨by first | with_reducible rfl | rfl, ?_⟩
       refine ⟨by first | with_reducible rfl | rfl, ?_⟩
       refine ⟨by first | with_reducible rfl | rfl, ?_⟩
       refine ⟨?_, ?_⟩
       ·
        refine ⟨by first | omega | (dsimp only; omega), ?_⟩
        refine ⟨by exact ⟨by assumption, by assumption⟩, ?_⟩
        have h19 : (true, n41) = stk (an, la) (List.take n46.toNat got) := by
         rw [show n46 = v_24.fst + 1 by omega, stk_succ _ _ h9.1.1 c10, ← h9.2.2.1]
         unfold stp
         rw [if_neg (old_f fun a => (by have := c11 a; omega)), q41]
        refine ⟨h19, ?_⟩
        have h20 : z44 = List.map (yng yb) (tk (an, la) (List.take n46.toNat got)) := by
         rw [show n46 = v_24.fst + 1 by omega, tk_succ _ _ h9.1.1 c10, ← h9.2.2.1, if_neg (old_f fun a => (by have := c11 a; omega)), qz44, mk_yng, List.take_of_length_le (by omega), h9.2.2.2.1]
         simp
        refine ⟨h20, ?_⟩
        have h21 : z44.length = v_24.snd.snd.snd.fst + (1 : Nat) := by
         rw [qz44]; simp; omega
        refine ⟨h21, ?_⟩
        refine ⟨by show (↑(v_24.snd.snd.snd.fst + (1 : Nat)) : Int) ≤ n46; omega, ?_⟩
        refine ⟨by show got.length ≤ (1024 : Nat); omega, ?_⟩
        exact h9.2.2.2.2.2.2.2
       exact by show ((↑got.length : Int) - n46).toNat < ((↑got.length : Int) - v_24.fst).toNat; omega
      intro n49
      intro q49
      intro ⟨l49, u49⟩
      have h22 : (got.getD v_24.fst.toNat (dflt (8 : Nat))).body.length ≤ (1000000 : Nat) := by
       have := bigB_none h9.2.2.2.2.2.2.2 (j := v_24.fst.toNat) (by omega)
       omega
      refine ⟨h22, ?_⟩
      refine ⟨by first | omega | (dsimp only; omega), ?_⟩
      intro z52
      intro qz52
      intro n54
      intro q54
      rw [IntKind.wrap_i64] at q54
      intro ⟨l54, u54⟩
      refine ⟨(n54, true, n49, v_24.snd.snd.snd.fst + (1 : Nat), z52), ?_⟩
      refine ⟨by first | with_reducible rfl | rfl, ?_⟩
      refine ⟨by first | with_reducible rfl | rfl, ?_⟩
      refine ⟨by first | with_reducible rfl | rfl, ?_⟩
      refine ⟨by first | with_reducible rfl | rfl, ?_⟩
      refine ⟨by first | with_reducible rfl | rfl, ?_⟩
      refine ⟨by first | with_reducible rfl | rfl, ?_⟩
      refine ⟨by first | with_reducible rfl | rfl, ?_⟩
      refine ⟨by first | with_reducible rfl | rfl, ?_⟩
      refine ⟨by first | with_reducible rfl | rfl, ?_⟩
      refine ⟨by first | with_reducible rfl | rfl, ?_⟩
      refine ⟨by first | with_reducible rfl | rfl, ?_⟩
      refine ⟨by first | with_reducible rfl | rfl, ?_⟩
      refine ⟨?_, ?_⟩
      ·
       refine ⟨by first | omega | (dsimp only; omega), ?_⟩
       refine ⟨by exact ⟨by assumption, by assumption⟩, ?_⟩
       have h23 : (true, n49) = stk (an, la) (List.take n54.toNat got) := by
        rw [show n54 = v_24.fst + 1 by omega, stk_succ _ _ h9.1.1 c10, ← h9.2.2.1]
        unfold stp
        rw [if_neg (old_f fun a => (by have := c11 a; omega)), q49]
       refine ⟨h23, ?_⟩
       have h24 : z52 = List.map (yng yb) (tk (an, la) (List.take n54.toNat got)) := by
        rw [show n54 = v_24.fst + 1 by omega, tk_succ _ _ h9.1.1 c10, ← h9.2.2.1, if_neg (old_f fun a => (by have := c11 a; omega)), qz52, mk_yng, List.take_of_length_le (by omega), h9.2.2.2.1]
        simp
       refine ⟨h24, ?_⟩
       have h25 : z52.length = v_24.snd.snd.snd.fst + (1 : Nat) := by
        rw [qz52]; simp; omega
       refine ⟨h25, ?_⟩
       refine ⟨by show (↑(v_24.snd.snd.snd.fst + (1 : Nat)) : Int) ≤ n54; omega, ?_⟩
       refine ⟨by show got.length ≤ (1024 : Nat); omega, ?_⟩
       exact h9.2.2.2.2.2.2.2
      exact by show ((↑got.length : Int) - n54).toNat < ((↑got.length : Int) - v_24.fst).toNat; omega
    ·
     intro n57
     intro q57
     intro ⟨l57, u57⟩
     intro n60
     intro q60
     rw [IntKind.wrap_i64] at q60
     intro ⟨l60, u60⟩
     intro n63
     intro q63
     intro ⟨l63, u63⟩
     intro n66
     intro q66
     intro ⟨l66, u66⟩
     refine brd (fun c26 => ?_) (fun c26 => ?_)
     ·
      exact hk.2 (lE_0 (nb h1 c2) (by omega) h9.2.2.2.2.2.2.2) _ _ _ _ _ (by rw [h9.2.2.1, List.take_of_length_le (by omega)]) h9.2.1 (by rw [h9.2.2.2.1, List.take_of_length_le (by omega)]) h9.2.2.2.2.1 (by unfold ageN; rw [if_pos (by omega)])
     ·
      have na := nb_age (nb h1 c2)
      exact hk.2 (lE_0 (nb h1 c2) (by omega) h9.2.2.2.2.2.2.2) _ _ _ _ _ (by rw [h9.2.2.1, List.take_of_length_le (by omega)]) h9.2.1 (by rw [h9.2.2.2.1, List.take_of_length_le (by omega)]) h9.2.2.2.2.1 (by unfold ageN; rw [if_neg (by omega)]; omega)

theorem nextY_ok (yb : Nat) : HoldsN yb Try.prog 12 (nextY yb) := by
  refine fn_soundY (env := { mkEnvY yb T1 with mode := md1 20002 3 }) (tabN_ok (T1N_ok yb)) Try.func12 Try.call12 fun args k h => ?_
  match args, h with
  | [.agg [.bool an, .int .u32 la, .int .i64 ag], .sl 8 got], h => exact ⟨by kernel_rfl, nextYLoops yb an la ag got, fun _ _ => none, .cast (by kernel_rfl) (nextY_vc yb an la h.1.1 h.1.2 ag h.2.1.1 h.2.1.2 got k h.2.2)⟩
end Go.Proofs.Ytpkfadgennejnaa

