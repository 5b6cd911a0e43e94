import Derived.Test.YtpkfadgennejnaaLyD
namespace Go.Proofs.Ytpkfadgennejnaa
open Go Go.Eng Go.Lk Go.Proofs
set_option linter.unusedVariables false
set_option maxHeartbeats 2000000 in
theorem takes1_vc (an : Bool) (la : Int) (la0 : (0 : Int) ≤ la) (la1 : la ≤ (4294967295 : Int)) (ag : Int) (ag0 : (-9223372036854775808 : Int) ≤ ag) (ag1 : ag ≤ (9223372036854775807 : Int)) (got : List Msg) (watch : Int) (watch0 : (-9223372036854775808 : Int) ≤ watch) (watch1 : watch ≤ (9223372036854775807 : Int)) (last : Int) (last0 : (0 : Int) ≤ last) (last1 : last ≤ (4294967295 : Int)) (hs : small got) (k : AV → List (Option Blk) → List Blk → Prop) (hk : k (AV.bool true) [] []) :
 (got.length ≤ (1048576 : Nat)) ∧
 ∀ (b_1 : Bool),
 br (b_1)
 ((k (AV.bool true) [] []))
 ((small got) ∧
  ∃ (v : Int),
  (got = got) ∧
  (watch = watch) ∧
  (last = last) ∧
  (got = got) ∧
  (an = an) ∧
  (la = la) ∧
  (ag = ag) ∧
  (True)) := by
 have h1 : got.length ≤ (1048576 : Nat) := by
  exact hs.c1
 refine ⟨h1, ?_⟩
 intro b_1
 refine br_intro (fun c2 => ?_) (fun c2 => ?_)
 ·
  exact hk
 ·
  refine ⟨by assumption, ?_⟩
  refine ⟨(0 : Int), ?_⟩
  refine ⟨by first | with_reducible rfl | rfl, ?_⟩
  refine ⟨by first | with_reducible rfl | rfl, ?_⟩
  refine ⟨by first | with_reducible rfl | rfl, ?_⟩
  refine ⟨by first | with_reducible rfl | rfl, ?_⟩
  refine ⟨by first | with_reducible rfl | rfl, ?_⟩
  refine ⟨by first | with_reducible rfl | rfl, ?_⟩
  refine ⟨by first | with_reducible rfl | rfl, ?_⟩
  exact by show True; decide

set_option maxHeartbeats 2000000 in
theorem takes2_vc (an : Bool) (la : Int) (la0 : (0 : Int) ≤ la) (la1 : la ≤ (4294967295 : Int)) (ag : Int) (ag0 : (-9223372036854775808 : Int) ≤ ag) (ag1 : ag ≤ (9223372036854775807 : Int)) (got : List Msg) (watch : Int) (watch0 : (-9223372036854775808 : Int) ≤ watch) (watch1 : watch ≤ (9223372036854775807 : Int)) (last : Int) (last0 : (0 : Int) ≤ last) (last1 : last ≤ (4294967295 : Int)) (x : Value × Value) (yb : Nat) (hs : small got) (k : AV → List (Option Blk) → List Blk → Prop) (hk : k (AV.bool true) [] []) :
 (
 ((0 : Int) ≤ la) ∧
 (la ≤ (4294967295 : Int))) ∧
 (
 ((-9223372036854775808 : Int) ≤ ag) ∧
 (ag ≤ (9223372036854775807 : Int))) ∧
 (
 ∀ (e_1 : Int),
 (e_1 = lE an la ag got) →
 (e_1 ≠ (0 : Int)) →
 (
  ((0 : Int) ≤ la) ∧
  (la ≤ (4294967295 : Int))) ∧
 (
  ((-9223372036854775808 : Int) ≤ ag) ∧
  (ag ≤ (9223372036854775807 : Int))) ∧
 (small got) ∧
 (
  ∀ (e_4 : Int),
  (e_4 = lE an la ag got) →
  (e_4 ≠ (0 : Int)) →
  (
  ((0 : Int) ≤ la) ∧
  (la ≤ (4294967295 : Int))) ∧
  (
  ((-9223372036854775808 : Int) ≤ ag) ∧
  (ag ≤ (9223372036854775807 : Int))) ∧
  (
  ((-9223372036854775808 : Int) ≤ watch) ∧
  (watch ≤ (9223372036854775807 : Int))) ∧
  (
  ∀ (e_7 : Int),
  (e_7 = fE an la ag watch) →
  (e_7 ≠ (0 : Int)) →
  (
   ((0 : Int) ≤ la) ∧
   (la ≤ (4294967295 : Int))) ∧
  (
   ((-9223372036854775808 : Int) ≤ ag) ∧
   (ag ≤ (9223372036854775807 : Int))) ∧
  (
   ((-9223372036854775808 : Int) ≤ watch) ∧
   (watch ≤ (9223372036854775807 : Int))) ∧
  (
   ∀ (e_10 : Int),
   (e_10 = fE an la ag watch) →
   (e_10 ≠ (0 : Int)) →
   (
   ((0 : Int) ≤ last) ∧
   (last ≤ (4294967295 : Int))) ∧
   ∀ (n_13 : Int),
   ∀ (e_14 : Int),
   ((n_13, e_14) = if last = (4294967295 : Int) then ((0 : Int), (2 : Int)) else (last + (1 : Int), (0 : Int))) →
   (
   ((0 : Int) ≤ last) ∧
   (last ≤ (4294967295 : Int))) ∧
   ∀ (n_16 : Int),
   ∀ (e_17 : Int),
   ((n_16, e_17) = if last = (4294967295 : Int) then ((0 : Int), (2 : Int)) else (last + (1 : Int), (0 : Int))) →
   (eqMs [] []) ∧
   ((0 : Nat) ≤ (1048576 : Nat)) ∧
   br (bif bif bif bif bif bif false then true else !true then true else e_1 != e_4 then true else !false == false then true else e_7 != e_10 then true else n_13 != n_16 then true else e_14 != e_17)
   ((k (AV.bool false) [] []))
   ((
    ∃ (v : Int × Nat × List WB),
    (x.fst = x.fst) ∧
    (x.snd = x.snd) ∧
    ((0 : Nat) = (0 : Nat)) ∧
    ((0 : Nat) = v.snd.fst) ∧
    ((0 : Int) = v.fst) ∧
    ([] = v.snd.snd) ∧
    (
     ((0 : Int) ≤ v.fst) ∧
     (v.fst ≤ (↑v.snd.fst : Int))) ∧
    (Wil yb v.snd.fst v.snd.snd)) ∧
    ∀ (v_19 : Int × Nat × List WB),
    (((0 : Int) ≤ v_19.fst ∧ v_19.fst ≤ (↑v_19.snd.fst : Int)) ∧ Wil yb v_19.snd.fst v_19.snd.snd) →
    ∀ (n21 : Int),
    (n21 = (↑v_19.snd.fst : Int)) →
    ((-9223372036854775808 : Int) ≤ n21 ∧ n21 ≤ (9223372036854775807 : Int)) →
    br (decide (v_19.fst < n21))
    ((
     ∃ (v : Int × Int × Nat × List WB),
     (x.fst = x.fst) ∧
     (x.snd = x.snd) ∧
     ((0 : Nat) = (0 : Nat)) ∧
     (v_19.snd.fst = v.snd.snd.fst) ∧
     (v_19.fst = v.snd.fst) ∧
     ((0 : Int) = v.fst) ∧
     (v_19.snd.snd = v.snd.snd.snd) ∧
     (
      ((0 : Int) ≤ v.fst) ∧
      (v.fst ≤ (↑(v.snd.snd.snd.getD v.snd.fst.toNat (dflt (15 : Nat))).n : Int))) ∧
     (
      ((0 : Int) ≤ v.snd.fst) ∧
      (v.snd.fst < (↑v.snd.snd.fst : Int))) ∧
     (v.snd.fst.toNat * (2000000 : Nat) + v.snd.snd.fst = v_19.fst.toNat * (2000000 : Nat) + v_19.snd.fst) ∧
     (Wil yb v.snd.snd.fst v.snd.snd.snd)) ∧
     ∀ (v_24 : Int × Int × Nat × List WB),
     (((0 : Int) ≤ v_24.fst ∧ v_24.fst ≤ (↑(v_24.snd.snd.snd.getD v_24.snd.fst.toNat (dflt (15 : Nat))).n : Int)) ∧ ((0 : Int) ≤ v_24.snd.fst ∧ v_24.snd.fst < (↑v_24.snd.snd.fst : Int)) ∧ v_24.snd.fst.toNat * (2000000 : Nat) + v_24.snd.snd.fst = v_19.fst.toNat * (2000000 : Nat) + v_19.snd.fst ∧ Wil yb v_24.snd.snd.fst v_24.snd.snd.snd) →
     ((0 : Int) ≤ v_24.snd.fst) ∧
     (v_24.snd.fst < (↑v_24.snd.snd.fst : Int)) ∧
     ((0 : Nat) + v_24.snd.fst.toNat < v_24.snd.snd.snd.length) ∧
     ∀ (n26 : Int),
     (n26 = (↑(v_24.snd.snd.snd.getD ((0 : Nat) + v_24.snd.fst.toNat) (dflt (15 : Nat))).n : Int)) →
     ((-9223372036854775808 : Int) ≤ n26 ∧ n26 ≤ (9223372036854775807 : Int)) →
     br (decide (v_24.fst < n26))
     (((0 : Int) ≤ v_24.snd.fst) ∧
      (v_24.snd.fst < (↑v_24.snd.snd.fst : Int)) ∧
      ((0 : Nat) + v_24.snd.fst.toNat < v_24.snd.snd.snd.length) ∧
      ((0 : Int) ≤ v_24.snd.fst) ∧
      (v_24.snd.fst < (↑v_24.snd.snd.fst : Int)) ∧
      ((0 : Nat) + v_24.snd.fst.toNat < v_24.snd.snd.snd.length) ∧
      ((0 : Int) ≤ v_24.fst) ∧
      (v_24.fst < (↑(v_24.snd.snd.snd.getD ((0 : Nat) + v_24.snd.fst.toNat) (dflt (15 : Nat))).n : Int)) ∧
      ((0 : Int) ≤ v_24.fst) ∧
      (v_24.fst < (↑(v_24.snd.snd.snd.getD ((0 : Nat) + v_24.snd.fst.toNat) (dflt (15 : Nat))).n : Int)) ∧
      (yb ≤ (v_24.snd.snd.snd.getD ((0 : Nat) + v_24.snd.fst.toNat) (dflt (15 : Nat))).nb) ∧
      ∀ (n29 : Int),
      (n29 = IntKind.i64.wrap (v_24.fst + (1 : Int))) →
      ((-9223372036854775808 : Int) ≤ n29 ∧ n29 ≤ (9223372036854775807 : Int)) →
      ∃ (v' : Int × Int × Nat × List WB),
      (x.fst = x.fst) ∧
      (x.snd = x.snd) ∧
      ((0 : Nat) = (0 : Nat)) ∧
      (v_24.snd.snd.fst = v'.snd.snd.fst) ∧
      (v_24.snd.fst = v'.snd.fst) ∧
      (n29 = v'.fst) ∧
      (v_24.snd.snd.snd = v'.snd.snd.snd) ∧
      (
      (
       ((0 : Int) ≤ v'.fst) ∧
       (v'.fst ≤ (↑(v'.snd.snd.snd.getD v'.snd.fst.toNat (dflt (15 : Nat))).n : Int))) ∧
      (
       ((0 : Int) ≤ v'.snd.fst) ∧
       (v'.snd.fst < (↑v'.snd.snd.fst : Int))) ∧
      (v'.snd.fst.toNat * (2000000 : Nat) + v'.snd.snd.fst = v_19.fst.toNat * (2000000 : Nat) + v_19.snd.fst) ∧
      (Wil yb v'.snd.snd.fst v'.snd.snd.snd)) ∧
      (((↑(v'.snd.snd.snd.getD v'.snd.fst.toNat (dflt (15 : Nat))).n : Int) - v'.fst).toNat < ((↑(v_24.snd.snd.snd.getD v_24.snd.fst.toNat (dflt (15 : Nat))).n : Int) - v_24.fst).toNat))
     (∀ (n32 : Int),
      (n32 = IntKind.i64.wrap (v_24.snd.fst + (1 : Int))) →
      ((-9223372036854775808 : Int) ≤ n32 ∧ n32 ≤ (9223372036854775807 : Int)) →
      ∃ (v' : Int × Nat × List WB),
      (x.fst = x.fst) ∧
      (x.snd = x.snd) ∧
      ((0 : Nat) = (0 : Nat)) ∧
      (v_24.snd.snd.fst = v'.snd.fst) ∧
      (n32 = v'.fst) ∧
      (v_24.snd.snd.snd = v'.snd.snd) ∧
      (
      (
       ((0 : Int) ≤ v'.fst) ∧
       (v'.fst ≤ (↑v'.snd.fst : Int))) ∧
      (Wil yb v'.snd.fst v'.snd.snd)) ∧
      (((↑v'.snd.fst : Int) - v'.fst).toNat < ((↑v_19.snd.fst : Int) - v_19.fst).toNat)))
    ((x.fst = x.fst) ∧
     (x.snd = x.snd) ∧
     (True)))) ∧
  ((fE an la ag watch = (0 : Int)) →
  ∀ (b_36 : Bool),
  (b_36 = (an && decide (ag < watch))) →
  (
   ((0 : Int) ≤ last) ∧
   (last ≤ (4294967295 : Int))) ∧
  ∀ (n_38 : Int),
  ∀ (e_39 : Int),
  ((n_38, e_39) = if last = (4294967295 : Int) then ((0 : Int), (2 : Int)) else (last + (1 : Int), (0 : Int))) →
  (
   ((0 : Int) ≤ last) ∧
   (last ≤ (4294967295 : Int))) ∧
  ∀ (n_41 : Int),
  ∀ (e_42 : Int),
  ((n_41, e_42) = if last = (4294967295 : Int) then ((0 : Int), (2 : Int)) else (last + (1 : Int), (0 : Int))) →
  (eqMs [] []) ∧
  ((0 : Nat) ≤ (1048576 : Nat)) ∧
  br (bif bif bif bif bif bif false then true else !true then true else e_1 != e_4 then true else !false == b_36 then true else e_7 != (0 : Int) then true else n_38 != n_41 then true else e_39 != e_42)
   ((k (AV.bool false) [] []))
   ((
    ∃ (v : Int × Nat × List WB),
    (x.fst = x.fst) ∧
    (x.snd = x.snd) ∧
    ((0 : Nat) = (0 : Nat)) ∧
    ((0 : Nat) = v.snd.fst) ∧
    ((0 : Int) = v.fst) ∧
    ([] = v.snd.snd) ∧
    (
    ((0 : Int) ≤ v.fst) ∧
    (v.fst ≤ (↑v.snd.fst : Int))) ∧
    (Wil yb v.snd.fst v.snd.snd)) ∧
   ∀ (v_44 : Int × Nat × List WB),
   (((0 : Int) ≤ v_44.fst ∧ v_44.fst ≤ (↑v_44.snd.fst : Int)) ∧ Wil yb v_44.snd.fst v_44.snd.snd) →
   ∀ (n46 : Int),
   (n46 = (↑v_44.snd.fst : Int)) →
   ((-9223372036854775808 : Int) ≤ n46 ∧ n46 ≤ (9223372036854775807 : Int)) →
   br (decide (v_44.fst < n46))
    ((
     ∃ (v : Int × Int × Nat × List WB),
     (x.fst = x.fst) ∧
     (x.snd = x.snd) ∧
     ((0 : Nat) = (0 : Nat)) ∧
     (v_44.snd.fst = v.snd.snd.fst) ∧
     (v_44.fst = v.snd.fst) ∧
     ((0 : Int) = v.fst) ∧
     (v_44.snd.snd = v.snd.snd.snd) ∧
     (
     ((0 : Int) ≤ v.fst) ∧
     (v.fst ≤ (↑(v.snd.snd.snd.getD v.snd.fst.toNat (dflt (15 : Nat))).n : Int))) ∧
     (
     ((0 : Int) ≤ v.snd.fst) ∧
     (v.snd.fst < (↑v.snd.snd.fst : Int))) ∧
     (v.snd.fst.toNat * (2000000 : Nat) + v.snd.snd.fst = v_44.fst.toNat * (2000000 : Nat) + v_44.snd.fst) ∧
     (Wil yb v.snd.snd.fst v.snd.snd.snd)) ∧
    ∀ (v_49 : Int × Int × Nat × List WB),
    (((0 : Int) ≤ v_49.fst ∧ v_49.fst ≤ (↑(v_49.snd.snd.snd.getD v_49.snd.fst.toNat (dflt (15 : Nat))).n : Int)) ∧ ((0 : Int) ≤ v_49.snd.fst ∧ v_49.snd.fst < (↑v_49.snd.snd.fst : Int)) ∧ v_49.snd.fst.toNat * (2000000 : Nat) + v_49.snd.snd.fst = v_44.fst.toNat * (2000000 : Nat) + v_44.snd.fst ∧ Wil yb v_49.snd.snd.fst v_49.snd.snd.snd) →
    ((0 : Int) ≤ v_49.snd.fst) ∧
    (v_49.snd.fst < (↑v_49.snd.snd.fst : Int)) ∧
    ((0 : Nat) + v_49.snd.fst.toNat < v_49.snd.snd.snd.length) ∧
    ∀ (n51 : Int),
    (n51 = (↑(v_49.snd.snd.snd.getD ((0 : Nat) + v_49.snd.fst.toNat) (dflt (15 : Nat))).n : Int)) →
    ((-9223372036854775808 : Int) ≤ n51 ∧ n51 ≤ (9223372036854775807 : Int)) →
    br (decide (v_49.fst < n51))
     (((0 : Int) ≤ v_49.snd.fst) ∧
     (v_49.snd.fst < (↑v_49.snd.snd.fst : Int)) ∧
     ((0 : Nat) + v_49.snd.fst.toNat < v_49.snd.snd.snd.length) ∧
     ((0 : Int) ≤ v_49.snd.fst) ∧
     (v_49.snd.fst < (↑v_49.snd.snd.fst : Int)) ∧
     ((0 : Nat) + v_49.snd.fst.toNat < v_49.snd.snd.snd.length) ∧
     ((0 : Int) ≤ v_49.fst) ∧
     (v_49.fst < (↑(v_49.snd.snd.snd.getD ((0 : Nat) + v_49.snd.fst.toNat) (dflt (15 : Nat))).n : Int)) ∧
     ((0 : Int) ≤ v_49.fst) ∧
     (v_49.fst < (↑(v_49.snd.snd.snd.getD ((0 : Nat) + v_49.snd.fst.toNat) (dflt (15 : Nat))).n : Int)) ∧
     (yb ≤ (v_49.snd.snd.snd.getD ((0 : Nat) + v_49.snd.fst.toNat) (dflt (15 : Nat))).nb) ∧
     ∀ (n54 : Int),
     (n54 = IntKind.i64.wrap (v_49.fst + (1 : Int))) →
     ((-9223372036854775808 : Int) ≤ n54 ∧ n54 ≤ (9223372036854775807 : Int)) →
     ∃ (v' : Int × Int × Nat × List WB),
     (x.fst = x.fst) ∧
     (x.snd = x.snd) ∧
     ((0 : Nat) = (0 : Nat)) ∧
     (v_49.snd.snd.fst = v'.snd.snd.fst) ∧
     (v_49.snd.fst = v'.snd.fst) ∧
     (n54 = v'.fst) ∧
     (v_49.snd.snd.snd = v'.snd.snd.snd) ∧
     (
      (
      ((0 : Int) ≤ v'.fst) ∧
      (v'.fst ≤ (↑(v'.snd.snd.snd.getD v'.snd.fst.toNat (dflt (15 : Nat))).n : Int))) ∧
      (
      ((0 : Int) ≤ v'.snd.fst) ∧
      (v'.snd.fst < (↑v'.snd.snd.fst : Int))) ∧
      (v'.snd.fst.toNat * (2000000 : Nat) + v'.snd.snd.fst = v_44.fst.toNat * (2000000 : Nat) + v_44.snd.fst) ∧
      (Wil yb v'.snd.snd.fst v'.snd.snd.snd)) ∧
     (((↑(v'.snd.snd.snd.getD v'.snd.fst.toNat (dflt (15 : Nat))).n : Int) - v'.fst).toNat < ((↑(v_49.snd.snd.snd.getD v_49.snd.fst.toNat (dflt (15 : Nat))).n : Int) - v_49.fst).toNat))
     (∀ (n57 : Int),
     (n57 = IntKind.i64.wrap (v_49.snd.fst + (1 : Int))) →
     ((-9223372036854775808 : Int) ≤ n57 ∧ n57 ≤ (9223372036854775807 : Int)) →
     ∃ (v' : Int × Nat × List WB),
     (x.fst = x.fst) ∧
     (x.snd = x.snd) ∧
     ((0 : Nat) = (0 : Nat)) ∧
     (v_49.snd.snd.fst = v'.snd.fst) ∧
     (n57 = v'.fst) ∧
     (v_49.snd.snd.snd = v'.snd.snd) ∧
     (
      (
      ((0 : Int) ≤ v'.fst) ∧
      (v'.fst ≤ (↑v'.snd.fst : Int))) ∧
      (Wil yb v'.snd.fst v'.snd.snd)) ∧
     (((↑v'.snd.fst : Int) - v'.fst).toNat < ((↑v_44.snd.fst : Int) - v_44.fst).toNat)))
    ((x.fst = x.fst) ∧
    (x.snd = x.snd) ∧
    (True))))) ∧
  ((fE an la ag watch = (0 : Int)) →
  ∀ (b_61 : Bool),
  (b_61 = (an && decide (ag < watch))) →
  (
  ((0 : Int) ≤ la) ∧
  (la ≤ (4294967295 : Int))) ∧
  (
  ((-9223372036854775808 : Int) ≤ ag) ∧
  (ag ≤ (9223372036854775807 : Int))) ∧
  (
  ((-9223372036854775808 : Int) ≤ watch) ∧
  (watch ≤ (9223372036854775807 : Int))) ∧
  (
  ∀ (e_63 : Int),
  (e_63 = fE an la ag watch) →
  (e_63 ≠ (0 : Int)) →
  (
   ((0 : Int) ≤ last) ∧
   (last ≤ (4294967295 : Int))) ∧
  ∀ (n_66 : Int),
  ∀ (e_67 : Int),
  ((n_66, e_67) = if last = (4294967295 : Int) then ((0 : Int), (2 : Int)) else (last + (1 : Int), (0 : Int))) →
  (
   ((0 : Int) ≤ last) ∧
   (last ≤ (4294967295 : Int))) ∧
  ∀ (n_69 : Int),
  ∀ (e_70 : Int),
  ((n_69, e_70) = if last = (4294967295 : Int) then ((0 : Int), (2 : Int)) else (last + (1 : Int), (0 : Int))) →
  (eqMs [] []) ∧
  ((0 : Nat) ≤ (1048576 : Nat)) ∧
  br (bif bif bif bif bif bif false then true else !true then true else e_1 != e_4 then true else !b_61 == false then true else (0 : Int) != e_63 then true else n_66 != n_69 then true else e_67 != e_70)
   ((k (AV.bool false) [] []))
   ((
    ∃ (v : Int × Nat × List WB),
    (x.fst = x.fst) ∧
    (x.snd = x.snd) ∧
    ((0 : Nat) = (0 : Nat)) ∧
    ((0 : Nat) = v.snd.fst) ∧
    ((0 : Int) = v.fst) ∧
    ([] = v.snd.snd) ∧
    (
    ((0 : Int) ≤ v.fst) ∧
    (v.fst ≤ (↑v.snd.fst : Int))) ∧
    (Wil yb v.snd.fst v.snd.snd)) ∧
   ∀ (v_72 : Int × Nat × List WB),
   (((0 : Int) ≤ v_72.fst ∧ v_72.fst ≤ (↑v_72.snd.fst : Int)) ∧ Wil yb v_72.snd.fst v_72.snd.snd) →
   ∀ (n74 : Int),
   (n74 = (↑v_72.snd.fst : Int)) →
   ((-9223372036854775808 : Int) ≤ n74 ∧ n74 ≤ (9223372036854775807 : Int)) →
   br (decide (v_72.fst < n74))
    ((
     ∃ (v : Int × Int × Nat × List WB),
     (x.fst = x.fst) ∧
     (x.snd = x.snd) ∧
     ((0 : Nat) = (0 : Nat)) ∧
     (v_72.snd.fst = v.snd.snd.fst) ∧
     (v_72.fst = v.snd.fst) ∧
     ((0 : Int) = v.fst) ∧
     (v_72.snd.snd = v.snd.snd.snd) ∧
     (
     ((0 : Int) ≤ v.fst) ∧
     (v.fst ≤ (↑(v.snd.snd.snd.getD v.snd.fst.toNat (dflt (15 : Nat))).n : Int))) ∧
     (
     ((0 : Int) ≤ v.snd.fst) ∧
     (v.snd.fst < (↑v.snd.snd.fst : Int))) ∧
     (v.snd.fst.toNat * (2000000 : Nat) + v.snd.snd.fst = v_72.fst.toNat * (2000000 : Nat) + v_72.snd.fst) ∧
     (Wil yb v.snd.snd.fst v.snd.snd.snd)) ∧
    ∀ (v_77 : Int × Int × Nat × List WB),
    (((0 : Int) ≤ v_77.fst ∧ v_77.fst ≤ (↑(v_77.snd.snd.snd.getD v_77.snd.fst.toNat (dflt (15 : Nat))).n : Int)) ∧ ((0 : Int) ≤ v_77.snd.fst ∧ v_77.snd.fst < (↑v_77.snd.snd.fst : Int)) ∧ v_77.snd.fst.toNat * (2000000 : Nat) + v_77.snd.snd.fst = v_72.fst.toNat * (2000000 : Nat) + v_72.snd.fst ∧ Wil yb v_77.snd.snd.fst v_77.snd.snd.snd) →
    ((0 : Int) ≤ v_77.snd.fst) ∧
    (v_77.snd.fst < (↑v_77.snd.snd.fst : Int)) ∧
    ((0 : Nat) + v_77.snd.fst.toNat < v_77.snd.snd.snd.length) ∧
    ∀ (n79 : Int),
    (n79 = (↑(v_77.snd.snd.snd.getD ((0 : Nat) + v_77.snd.fst.toNat) (dflt (15 : Nat))).n : Int)) →
    ((-9223372036854775808 : Int) ≤ n79 ∧ n79 ≤ (9223372036854775807 : Int)) →
    br (decide (v_77.fst < n79))
     (((0 : Int) ≤ v_77.snd.fst) ∧
     (v_77.snd.fst < (↑v_77.snd.snd.fst : Int)) ∧
     ((0 : Nat) + v_77.snd.fst.toNat < v_77.snd.snd.snd.length) ∧
     ((0 : Int) ≤ v_77.snd.fst) ∧
     (v_77.snd.fst < (↑v_77.snd.snd.fst : Int)) ∧
     ((0 : Nat) + v_77.snd.fst.toNat < v_77.snd.snd.snd.length) ∧
     ((0 : Int) ≤ v_77.fst) ∧
     (v_77.fst < (↑(v_77.snd.snd.snd.getD ((0 : Nat) + v_77.snd.fst.toNat) (dflt (15 : Nat))).n : Int)) ∧
     ((0 : Int) ≤ v_77.fst) ∧
     (v_77.fst < (↑(v_77.snd.snd.snd.getD ((0 : Nat) + v_77.snd.fst.toNat) (dflt (15 : Nat))).n : Int)) ∧
     (yb ≤ (v_77.snd.snd.snd.getD ((0 : Nat) + v_77.snd.fst.toNat) (dflt (15 : Nat))).nb) ∧
     ∀ (n82 : Int),
     (n82 = IntKind.i64.wrap (v_77.fst + (1 : Int))) →
     ((-9223372036854775808 : Int) ≤ n82 ∧ n82 ≤ (9223372036854775807 : Int)) →
     ∃ (v' : Int × Int × Nat × List WB),
     (x.fst = x.fst) ∧
     (x.snd = x.snd) ∧
     ((0 : Nat) = (0 : Nat)) ∧
     (v_77.snd.snd.fst = v'.snd.snd.fst) ∧
     (v_77.snd.fst = v'.snd.fst) ∧
     (n82 = v'.fst) ∧
     (v_77.snd.snd.snd = v'.snd.snd.snd) ∧
     (
      (
      ((0 : Int) ≤ v'.fst) ∧
      (v'.fst ≤ (↑(v'.snd.snd.snd.getD v'.snd.fst.toNat (dflt (15 : Nat))).n : Int))) ∧
      (
      ((0 : Int) ≤ v'.snd.fst) ∧
      (v'.snd.fst < (↑v'.snd.snd.fst : Int))) ∧
      (v'.snd.fst.toNat * (2000000 : Nat) + v'.snd.snd.fst = v_72.fst.toNat * (2000000 : Nat) + v_72.snd.fst) ∧
      (Wil yb v'.snd.snd.fst v'.snd.snd.snd)) ∧
     (((↑(v'.snd.snd.snd.getD v'.snd.fst.toNat (dflt (15 : Nat))).n : Int) - v'.fst).toNat < ((↑(v_77.snd.snd.snd.getD v_77.snd.fst.toNat (dflt (15 : Nat))).n : Int) - v_77.fst).toNat))
     (∀ (n85 : Int),
     (n85 = IntKind.i64.wrap (v_77.snd.fst + (1 : Int))) →
     ((-9223372036854775808 : Int) ≤ n85 ∧ n85 ≤ (9223372036854775807 : Int)) →
     ∃ (v' : Int × Nat × List WB),
     (x.fst = x.fst) ∧
     (x.snd = x.snd) ∧
     ((0 : Nat) = (0 : Nat)) ∧
     (v_77.snd.snd.fst = v'.snd.fst) ∧
     (n85 = v'.fst) ∧
     (v_77.snd.snd.snd = v'.snd.snd) ∧
     (
      (
      ((0 : Int) ≤ v'.fst) ∧
      (v'.fst ≤ (↑v'.snd.fst : Int))) ∧
      (Wil yb v'.snd.fst v'.snd.snd)) ∧
     (((↑v'.snd.fst : Int) - v'.fst).toNat < ((↑v_72.snd.fst : Int) - v_72.fst).toNat)))
    ((x.fst = x.fst) ∧
    (x.snd = x.snd) ∧
    (True)))) ∧
  ((fE an la ag watch = (0 : Int)) →
  ∀ (b_89 : Bool),
  (b_89 = (an && decide (ag < watch))) →
  (
  ((0 : Int) ≤ last) ∧
  (last ≤ (4294967295 : Int))) ∧
  ∀ (n_91 : Int),
  ∀ (e_92 : Int),
  ((n_91, e_92) = if last = (4294967295 : Int) then ((0 : Int), (2 : Int)) else (last + (1 : Int), (0 : Int))) →
  (
  ((0 : Int) ≤ last) ∧
  (last ≤ (4294967295 : Int))) ∧
  ∀ (n_94 : Int),
  ∀ (e_95 : Int),
  ((n_94, e_95) = if last = (4294967295 : Int) then ((0 : Int), (2 : Int)) else (last + (1 : Int), (0 : Int))) →
  (eqMs [] []) ∧
  ((0 : Nat) ≤ (1048576 : Nat)) ∧
  br (bif bif bif bif bif bif false then true else !true then true else e_1 != e_4 then true else !b_61 == b_89 then true else (0 : Int) != (0 : Int) then true else n_91 != n_94 then true else e_92 != e_95)
  ((k (AV.bool false) [] []))
  ((
   ∃ (v : Int × Nat × List WB),
   (x.fst = x.fst) ∧
   (x.snd = x.snd) ∧
   ((0 : Nat) = (0 : Nat)) ∧
   ((0 : Nat) = v.snd.fst) ∧
   ((0 : Int) = v.fst) ∧
   ([] = v.snd.snd) ∧
   (
    ((0 : Int) ≤ v.fst) ∧
    (v.fst ≤ (↑v.snd.fst : Int))) ∧
   (Wil yb v.snd.fst v.snd.snd)) ∧
   ∀ (v_97 : Int × Nat × List WB),
   (((0 : Int) ≤ v_97.fst ∧ v_97.fst ≤ (↑v_97.snd.fst : Int)) ∧ Wil yb v_97.snd.fst v_97.snd.snd) →
   ∀ (n99 : Int),
   (n99 = (↑v_97.snd.fst : Int)) →
   ((-9223372036854775808 : Int) ≤ n99 ∧ n99 ≤ (9223372036854775807 : Int)) →
   br (decide (v_97.fst < n99))
   ((
    ∃ (v : Int × Int × Nat × List WB),
    (x.fst = x.fst) ∧
    (x.snd = x.snd) ∧
    ((0 : Nat) = (0 : Nat)) ∧
    (v_97.snd.fst = v.snd.snd.fst) ∧
    (v_97.fst = v.snd.fst) ∧
    ((0 : Int) = v.fst) ∧
    (v_97.snd.snd = v.snd.snd.snd) ∧
    (
     ((0 : Int) ≤ v.fst) ∧
     (v.fst ≤ (↑(v.snd.snd.snd.getD v.snd.fst.toNat (dflt (15 : Nat))).n : Int))) ∧
    (
     ((0 : Int) ≤ v.snd.fst) ∧
     (v.snd.fst < (↑v.snd.snd.fst : Int))) ∧
    (v.snd.fst.toNat * (2000000 : Nat) + v.snd.snd.fst = v_97.fst.toNat * (2000000 : Nat) + v_97.snd.fst) ∧
    (Wil yb v.snd.snd.fst v.snd.snd.snd)) ∧
    ∀ (v_102 : Int × Int × Nat × List WB),
    (((0 : Int) ≤ v_102.fst ∧ v_102.fst ≤ (↑(v_102.snd.snd.snd.getD v_102.snd.fst.toNat (dflt (15 : Nat))).n : Int)) ∧ ((0 : Int) ≤ v_102.snd.fst ∧ v_102.snd.fst < (↑v_102.snd.snd.fst : Int)) ∧ v_102.snd.fst.toNat * (2000000 : Nat) + v_102.snd.snd.fst = v_97.fst.toNat * (2000000 : Nat) + v_97.snd.fst ∧ Wil yb v_102.snd.snd.fst v_102.snd.snd.snd) →
    ((0 : Int) ≤ v_102.snd.fst) ∧
    (v_102.snd.fst < (↑v_102.snd.snd.fst : Int)) ∧
    ((0 : Nat) + v_102.snd.fst.toNat < v_102.snd.snd.snd.length) ∧
    ∀ (n104 : Int),
    (n104 = (↑(v_102.snd.snd.snd.getD ((0 : Nat) + v_102.snd.fst.toNat) (dflt (15 : Nat))).n : Int)) →
    ((-9223372036854775808 : Int) ≤ n104 ∧ n104 ≤ (9223372036854775807 : Int)) →
    br (decide (v_102.fst < n104))
    (((0 : Int) ≤ v_102.snd.fst) ∧
     (v_102.snd.fst < (↑v_102.snd.snd.fst : Int)) ∧
     ((0 : Nat) + v_102.snd.fst.toNat < v_102.snd.snd.snd.length) ∧
     ((0 : Int) ≤ v_102.snd.fst) ∧
     (v_102.snd.fst < (↑v_102.snd.snd.fst : Int)) ∧
     ((0 : Nat) + v_102.snd.fst.toNat < v_102.snd.snd.snd.length) ∧
     ((0 : Int) ≤ v_102.fst) ∧
     (v_102.fst < (↑(v_102.snd.snd.snd.getD ((0 : Nat) + v_102.snd.fst.toNat) (dflt (15 : Nat))).n : Int)) ∧
     ((0 : Int) ≤ v_102.fst) ∧
     (v_102.fst < (↑(v_102.snd.snd.snd.getD ((0 : Nat) + v_102.snd.fst.toNat) (dflt (15 : Nat))).n : Int)) ∧
     (yb ≤ (v_102.snd.snd.snd.getD ((0 : Nat) + v_102.snd.fst.toNat) (dflt (15 : Nat))).nb) ∧
     ∀ (n107 : Int),
     (n107 = IntKind.i64.wrap (v_102.fst + (1 : Int))) →
     ((-9223372036854775808 : Int) ≤ n107 ∧ n107 ≤ (9223372036854775807 : Int)) →
     ∃ (v' : Int × Int × Nat × List WB),
     (x.fst = x.fst) ∧
     (x.snd = x.snd) ∧
     ((0 : Nat) = (0 : Nat)) ∧
     (v_102.snd.snd.fst = v'.snd.snd.fst) ∧
     (v_102.snd.fst = v'.snd.fst) ∧
     (n107 = v'.fst) ∧
     (v_102.snd.snd.snd = v'.snd.snd.snd) ∧
     (
     (
      ((0 : Int) ≤ v'.fst) ∧
      (v'.fst ≤ (↑(v'.snd.snd.snd.getD v'.snd.fst.toNat (dflt (15 : Nat))).n : Int))) ∧
     (
      ((0 : Int) ≤ v'.snd.fst) ∧
      (v'.snd.fst < (↑v'.snd.snd.fst : Int))) ∧
     (v'.snd.fst.toNat * (2000000 : Nat) + v'.snd.snd.fst = v_97.fst.toNat * (2000000 : Nat) + v_97.snd.fst) ∧
     (Wil yb v'.snd.snd.fst v'.snd.snd.snd)) ∧
     (((↑(v'.snd.snd.snd.getD v'.snd.fst.toNat (dflt (15 : Nat))).n : Int) - v'.fst).toNat < ((↑(v_102.snd.snd.snd.getD v_102.snd.fst.toNat (dflt (15 : Nat))).n : Int) - v_102.fst).toNat))
    (∀ (n110 : Int),
     (n110 = IntKind.i64.wrap (v_102.snd.fst + (1 : Int))) →
     ((-9223372036854775808 : Int) ≤ n110 ∧ n110 ≤ (9223372036854775807 : Int)) →
     ∃ (v' : Int × Nat × List WB),
     (x.fst = x.fst) ∧
     (x.snd = x.snd) ∧
     ((0 : Nat) = (0 : Nat)) ∧
     (v_102.snd.snd.fst = v'.snd.fst) ∧
     (n110 = v'.fst) ∧
     (v_102.snd.snd.snd = v'.snd.snd) ∧
     (
     (
      ((0 : Int) ≤ v'.fst) ∧
      (v'.fst ≤ (↑v'.snd.fst : Int))) ∧
     (Wil yb v'.snd.fst v'.snd.snd)) ∧
     (((↑v'.snd.fst : Int) - v'.fst).toNat < ((↑v_97.snd.fst : Int) - v_97.fst).toNat)))
   ((x.fst = x.fst) ∧
    (x.snd = x.snd) ∧
    (True)))))) ∧
 ((lE an la ag got = (0 : Int)) →
 ∀ (b_114 : Bool),
 ∀ (l_115 : Int),
 ∀ (a_116 : Int),
 ∀ (ys_117 : List Msg),
 ∀ (n_118 : Nat),
 ((b_114, l_115) = stk (an, la) got) →
 ((0 : Int) ≤ l_115 ∧ l_115 ≤ (4294967295 : Int)) →
 (ys_117 = tk (an, la) got) →
 (ys_117.length = n_118) →
 (a_116 = ageN ag n_118) →
 (
  ((0 : Int) ≤ la) ∧
  (la ≤ (4294967295 : Int))) ∧
 (
  ((-9223372036854775808 : Int) ≤ ag) ∧
  (ag ≤ (9223372036854775807 : Int))) ∧
 (
  ((-9223372036854775808 : Int) ≤ watch) ∧
  (watch ≤ (9223372036854775807 : Int))) ∧
 (
  ∀ (e_124 : Int),
  (e_124 = fE an la ag watch) →
  (e_124 ≠ (0 : Int)) →
  (
  ((0 : Int) ≤ la) ∧
  (la ≤ (4294967295 : Int))) ∧
  (
  ((-9223372036854775808 : Int) ≤ ag) ∧
  (ag ≤ (9223372036854775807 : Int))) ∧
  (
  ((-9223372036854775808 : Int) ≤ watch) ∧
  (watch ≤ (9223372036854775807 : Int))) ∧
  (
  ∀ (e_127 : Int),
  (e_127 = fE an la ag watch) →
  (e_127 ≠ (0 : Int)) →
  (
   ((0 : Int) ≤ last) ∧
   (last ≤ (4294967295 : Int))) ∧
  ∀ (n_130 : Int),
  ∀ (e_131 : Int),
  ((n_130, e_131) = if last = (4294967295 : Int) then ((0 : Int), (2 : Int)) else (last + (1 : Int), (0 : Int))) →
  (
   ((0 : Int) ≤ last) ∧
   (last ≤ (4294967295 : Int))) ∧
  ∀ (n_133 : Int),
  ∀ (e_134 : Int),
  ((n_133, e_134) = if last = (4294967295 : Int) then ((0 : Int), (2 : Int)) else (last + (1 : Int), (0 : Int))) →
  br (!(false == b_114 && ((0 : Int) == l_115 && ((0 : Int) == a_116 && true))))
   ((true = true) ∧
   (k (AV.bool false) [] []))
   ((eqMs [] (List.take n_118 (List.drop (0 : Nat) ys_117))) ∧
   ((0 : Nat) ≤ (1048576 : Nat)) ∧
   br (bif bif bif bif bif bif false then true else !true then true else e_1 != (0 : Int) then true else !false == false then true else e_124 != e_127 then true else n_130 != n_133 then true else e_131 != e_134)
    ((k (AV.bool false) [] []))
    ((
     ∃ (v : Int × Nat × List WB),
     (x.fst = x.fst) ∧
     (x.snd = x.snd) ∧
     ((0 : Nat) = (0 : Nat)) ∧
     ((0 : Nat) = v.snd.fst) ∧
     ((0 : Int) = v.fst) ∧
     ([] = v.snd.snd) ∧
     (
     ((0 : Int) ≤ v.fst) ∧
     (v.fst ≤ (↑v.snd.fst : Int))) ∧
     (Wil yb v.snd.fst v.snd.snd)) ∧
    ∀ (v_136 : Int × Nat × List WB),
    (((0 : Int) ≤ v_136.fst ∧ v_136.fst ≤ (↑v_136.snd.fst : Int)) ∧ Wil yb v_136.snd.fst v_136.snd.snd) →
    ∀ (n138 : Int),
    (n138 = (↑v_136.snd.fst : Int)) →
    ((-9223372036854775808 : Int) ≤ n138 ∧ n138 ≤ (9223372036854775807 : Int)) →
    br (decide (v_136.fst < n138))
     ((
      ∃ (v : Int × Int × Nat × List WB),
      (x.fst = x.fst) ∧
      (x.snd = x.snd) ∧
      ((0 : Nat) = (0 : Nat)) ∧
      (v_136.snd.fst = v.snd.snd.fst) ∧
      (v_136.fst = v.snd.fst) ∧
      ((0 : Int) = v.fst) ∧
      (v_136.snd.snd = v.snd.snd.snd) ∧
      (
      ((0 : Int) ≤ v.fst) ∧
      (v.fst ≤ (↑(v.snd.snd.snd.getD v.snd.fst.toNat (dflt (15 : Nat))).n : Int))) ∧
      (
      ((0 : Int) ≤ v.snd.fst) ∧
      (v.snd.fst < (↑v.snd.snd.fst : Int))) ∧
      (v.snd.fst.toNat * (2000000 : Nat) + v.snd.snd.fst = v_136.fst.toNat * (2000000 : Nat) + v_136.snd.fst) ∧
      (Wil yb v.snd.snd.fst v.snd.snd.snd)) ∧
     ∀ (v_141 : Int × Int × Nat × List WB),
     (((0 : Int) ≤ v_141.fst ∧ v_141.fst ≤ (↑(v_141.snd.snd.snd.getD v_141.snd.fst.toNat (dflt (15 : Nat))).n : Int)) ∧ ((0 : Int) ≤ v_141.snd.fst ∧ v_141.snd.fst < (↑v_141.snd.snd.fst : Int)) ∧ v_141.snd.fst.toNat * (2000000 : Nat) + v_141.snd.snd.fst = v_136.fst.toNat * (2000000 : Nat) + v_136.snd.fst ∧ Wil yb v_141.snd.snd.fst v_141.snd.snd.snd) →
     ((0 : Int) ≤ v_141.snd.fst) ∧
     (v_141.snd.fst < (↑v_141.snd.snd.fst : Int)) ∧
     ((0 : Nat) + v_141.snd.fst.toNat < v_141.snd.snd.snd.length) ∧
     ∀ (n143 : Int),
     (n143 = (↑(v_141.snd.snd.snd.getD ((0 : Nat) + v_141.snd.fst.toNat) (dflt (15 : Nat))).n : Int)) →
     ((-9223372036854775808 : Int) ≤ n143 ∧ n143 ≤ (9223372036854775807 : Int)) →
     br (decide (v_141.fst < n143))
      (((0 : Int) ≤ v_141.snd.fst) ∧
      (v_141.snd.fst < (↑v_141.snd.snd.fst : Int)) ∧
      ((0 : Nat) + v_141.snd.fst.toNat < v_141.snd.snd.snd.length) ∧
      ((0 : Int) ≤ v_141.snd.fst) ∧
      (v_141.snd.fst < (↑v_141.snd.snd.fst : Int)) ∧
      ((0 : Nat) + v_141.snd.fst.toNat < v_141.snd.snd.snd.length) ∧
      ((0 : Int) ≤ v_141.fst) ∧
      (v_141.fst < (↑(v_141.snd.snd.snd.getD ((0 : Nat) + v_141.snd.fst.toNat) (dflt (15 : Nat))).n : Int)) ∧
      ((0 : Int) ≤ v_141.fst) ∧
      (v_141.fst < (↑(v_141.snd.snd.snd.getD ((0 : Nat) + v_141.snd.fst.toNat) (dflt (15 : Nat))).n : Int)) ∧
      (yb ≤ (v_141.snd.snd.snd.getD ((0 : Nat) + v_141.snd.fst.toNat) (dflt (15 : Nat))).nb) ∧
      ∀ (n146 : Int),
      (n146 = IntKind.i64.wrap (v_141.fst + (1 : Int))) →
      ((-9223372036854775808 : Int) ≤ n146 ∧ n146 ≤ (9223372036854775807 : Int)) →
      ∃ (v' : Int × Int × Nat × List WB),
      (x.fst = x.fst) ∧
      (x.snd = x.snd) ∧
      ((0 : Nat) = (0 : Nat)) ∧
      (v_141.snd.snd.fst = v'.snd.snd.fst) ∧
      (v_141.snd.fst = v'.snd.fst) ∧
      (n146 = v'.fst) ∧
      (v_141.snd.snd.snd = v'.snd.snd.snd) ∧
      (
       (
       ((0 : Int) ≤ v'.fst) ∧
       (v'.fst ≤ (↑(v'.snd.snd.snd.getD v'.snd.fst.toNat (dflt (15 : Nat))).n : Int))) ∧
       (
       ((0 : Int) ≤ v'.snd.fst) ∧
       (v'.snd.fst < (↑v'.snd.snd.fst : Int))) ∧
       (v'.snd.fst.toNat * (2000000 : Nat) + v'.snd.snd.fst = v_136.fst.toNat * (2000000 : Nat) + v_136.snd.fst) ∧
       (Wil yb v'.snd.snd.fst v'.snd.snd.snd)) ∧
      (((↑(v'.snd.snd.snd.getD v'.snd.fst.toNat (dflt (15 : Nat))).n : Int) - v'.fst).toNat < ((↑(v_141.snd.snd.snd.getD v_141.snd.fst.toNat (dflt (15 : Nat))).n : Int) - v_141.fst).toNat))
      (∀ (n149 : Int),
      (n149 = IntKind.i64.wrap (v_141.snd.fst + (1 : Int))) →
      ((-9223372036854775808 : Int) ≤ n149 ∧ n149 ≤ (9223372036854775807 : Int)) →
      ∃ (v' : Int × Nat × List WB),
      (x.fst = x.fst) ∧
      (x.snd = x.snd) ∧
      ((0 : Nat) = (0 : Nat)) ∧
      (v_141.snd.snd.fst = v'.snd.fst) ∧
      (n149 = v'.fst) ∧
      (v_141.snd.snd.snd = v'.snd.snd) ∧
      (
       (
       ((0 : Int) ≤ v'.fst) ∧
       (v'.fst ≤ (↑v'.snd.fst : Int))) ∧
       (Wil yb v'.snd.fst v'.snd.snd)) ∧
      (((↑v'.snd.fst : Int) - v'.fst).toNat < ((↑v_136.snd.fst : Int) - v_136.fst).toNat)))
     ((x.fst = x.fst) ∧
     (x.snd = x.snd) ∧
     (True))))) ∧
  ((fE an la ag watch = (0 : Int)) →
  ∀ (b_153 : Bool),
  (b_153 = (an && decide (ag < watch))) →
  (
  ((0 : Int) ≤ last) ∧
  (last ≤ (4294967295 : Int))) ∧
  ∀ (n_155 : Int),
  ∀ (e_156 : Int),
  ((n_155, e_156) = if last = (4294967295 : Int) then ((0 : Int), (2 : Int)) else (last + (1 : Int), (0 : Int))) →
  (
  ((0 : Int) ≤ last) ∧
  (last ≤ (4294967295 : Int))) ∧
  ∀ (n_158 : Int),
  ∀ (e_159 : Int),
  ((n_158, e_159) = if last = (4294967295 : Int) then ((0 : Int), (2 : Int)) else (last + (1 : Int), (0 : Int))) →
  br (!(false == b_114 && ((0 : Int) == l_115 && ((0 : Int) == a_116 && true))))
  ((true = true) ∧
   (k (AV.bool false) [] []))
  ((eqMs [] (List.take n_118 (List.drop (0 : Nat) ys_117))) ∧
   ((0 : Nat) ≤ (1048576 : Nat)) ∧
   br (bif bif bif bif bif bif false then true else !true then true else e_1 != (0 : Int) then true else !false == b_153 then true else e_124 != (0 : Int) then true else n_155 != n_158 then true else e_156 != e_159)
   ((k (AV.bool false) [] []))
   ((
    ∃ (v : Int × Nat × List WB),
    (x.fst = x.fst) ∧
    (x.snd = x.snd) ∧
    ((0 : Nat) = (0 : Nat)) ∧
    ((0 : Nat) = v.snd.fst) ∧
    ((0 : Int) = v.fst) ∧
    ([] = v.snd.snd) ∧
    (
     ((0 : Int) ≤ v.fst) ∧
     (v.fst ≤ (↑v.snd.fst : Int))) ∧
    (Wil yb v.snd.fst v.snd.snd)) ∧
    ∀ (v_161 : Int × Nat × List WB),
    (((0 : Int) ≤ v_161.fst ∧ v_161.fst ≤ (↑v_161.snd.fst : Int)) ∧ Wil yb v_161.snd.fst v_161.snd.snd) →
    ∀ (n163 : Int),
    (n163 = (↑v_161.snd.fst : Int)) →
    ((-9223372036854775808 : Int) ≤ n163 ∧ n163 ≤ (9223372036854775807 : Int)) →
    br (decide (v_161.fst < n163))
    ((
     ∃ (v : Int × Int × Nat × List WB),
     (x.fst = x.fst) ∧
     (x.snd = x.snd) ∧
     ((0 : Nat) = (0 : Nat)) ∧
     (v_161.snd.fst = v.snd.snd.fst) ∧
     (v_161.fst = v.snd.fst) ∧
     ((0 : Int) = v.fst) ∧
     (v_161.snd.snd = v.snd.snd.snd) ∧
     (
      ((0 : Int) ≤ v.fst) ∧
      (v.fst ≤ (↑(v.snd.snd.snd.getD v.snd.fst.toNat (dflt (15 : Nat))).n : Int))) ∧
     (
      ((0 : Int) ≤ v.snd.fst) ∧
      (v.snd.fst < (↑v.snd.snd.fst : Int))) ∧
     (v.snd.fst.toNat * (2000000 : Nat) + v.snd.snd.fst = v_161.fst.toNat * (2000000 : Nat) + v_161.snd.fst) ∧
     (Wil yb v.snd.snd.fst v.snd.snd.snd)) ∧
     ∀ (v_166 : Int × Int × Nat × List WB),
     (((0 : Int) ≤ v_166.fst ∧ v_166.fst ≤ (↑(v_166.snd.snd.snd.getD v_166.snd.fst.toNat (dflt (15 : Nat))).n : Int)) ∧ ((0 : Int) ≤ v_166.snd.fst ∧ v_166.snd.fst < (↑v_166.snd.snd.fst : Int)) ∧ v_166.snd.fst.toNat * (2000000 : Nat) + v_166.snd.snd.fst = v_161.fst.toNat * (2000000 : Nat) + v_161.snd.fst ∧ Wil yb v_166.snd.snd.fst v_166.snd.snd.snd) →
     ((0 : Int) ≤ v_166.snd.fst) ∧
     (v_166.snd.fst < (↑v_166.snd.snd.fst : Int)) ∧
     ((0 : Nat) + v_166.snd.fst.toNat < v_166.snd.snd.snd.length) ∧
     ∀ (n168 : Int),
     (n168 = (↑(v_166.snd.snd.snd.getD ((0 : Nat) + v_166.snd.fst.toNat) (dflt (15 : Nat))).n : Int)) →
     ((-9223372036854775808 : Int) ≤ n168 ∧ n168 ≤ (9223372036854775807 : Int)) →
     br (decide (v_166.fst < n168))
     (((0 : Int) ≤ v_166.snd.fst) ∧
      (v_166.snd.fst < (↑v_166.snd.snd.fst : Int)) ∧
      ((0 : Nat) + v_166.snd.fst.toNat < v_166.snd.snd.snd.length) ∧
      ((0 : Int) ≤ v_166.snd.fst) ∧
      (v_166.snd.fst < (↑v_166.snd.snd.fst : Int)) ∧
      ((0 : Nat) + v_166.snd.fst.toNat < v_166.snd.snd.snd.length) ∧
      ((0 : Int) ≤ v_166.fst) ∧
      (v_166.fst < (↑(v_166.snd.snd.snd.getD ((0 : Nat) + v_166.snd.fst.toNat) (dflt (15 : Nat))).n : Int)) ∧
      ((0 : Int) ≤ v_166.fst) ∧
      (v_166.fst < (↑(v_166.snd.snd.snd.getD ((0 : Nat) + v_166.snd.fst.toNat) (dflt (15 : Nat))).n : Int)) ∧
      (yb ≤ (v_166.snd.snd.snd.getD ((0 : Nat) + v_166.snd.fst.toNat) (dflt (15 : Nat))).nb) ∧
      ∀ (n171 : Int),
      (n171 = IntKind.i64.wrap (v_166.fst + (1 : Int))) →
      ((-9223372036854775808 : Int) ≤ n171 ∧ n171 ≤ (9223372036854775807 : Int)) →
      ∃ (v' : Int × Int × Nat × List WB),
      (x.fst = x.fst) ∧
      (x.snd = x.snd) ∧
      ((0 : Nat) = (0 : Nat)) ∧
      (v_166.snd.snd.fst = v'.snd.snd.fst) ∧
      (v_166.snd.fst = v'.snd.fst) ∧
      (n171 = v'.fst) ∧
      (v_166.snd.snd.snd = v'.snd.snd.snd) ∧
      (
      (
       ((0 : Int) ≤ v'.fst) ∧
       (v'.fst ≤ (↑(v'.snd.snd.snd.getD v'.snd.fst.toNat (dflt (15 : Nat))).n : Int))) ∧
      (
       ((0 : Int) ≤ v'.snd.fst) ∧
       (v'.snd.fst < (↑v'.snd.snd.fst : Int))) ∧
      (v'.snd.fst.toNat * (2000000 : Nat) + v'.snd.snd.fst = v_161.fst.toNat * (2000000 : Nat) + v_161.snd.fst) ∧
      (Wil yb v'.snd.snd.fst v'.snd.snd.snd)) ∧
      (((↑(v'.snd.snd.snd.getD v'.snd.fst.toNat (dflt (15 : Nat))).n : Int) - v'.fst).toNat < ((↑(v_166.snd.snd.snd.getD v_166.snd.fst.toNat (dflt (15 : Nat))).n : Int) - v_166.fst).toNat))
     (∀ (n174 : Int),
      (n174 = IntKind.i64.wrap (v_166.snd.fst + (1 : Int))) →
      ((-9223372036854775808 : Int) ≤ n174 ∧ n174 ≤ (9223372036854775807 : Int)) →
      ∃ (v' : Int × Nat × List WB),
      (x.fst = x.fst) ∧
      (x.snd = x.snd) ∧
      ((0 : Nat) = (0 : Nat)) ∧
      (v_166.snd.snd.fst = v'.snd.fst) ∧
      (n174 = v'.fst) ∧
      (v_166.snd.snd.snd = v'.snd.snd) ∧
      (
      (
       ((0 : Int) ≤ v'.fst) ∧
       (v'.fst ≤ (↑v'.snd.fst : Int))) ∧
      (Wil yb v'.snd.fst v'.snd.snd)) ∧
      (((↑v'.snd.fst : Int) - v'.fst).toNat < ((↑v_161.snd.fst : Int) - v_161.fst).toNat)))
    ((x.fst = x.fst) ∧
     (x.snd = x.snd) ∧
     (True)))))) ∧
 ((fE an la ag watch = (0 : Int)) →
 ∀ (b_178 : Bool),
 (b_178 = (an && decide (ag < watch))) →
 (
  ((0 : Int) ≤ la) ∧
  (la ≤ (4294967295 : Int))) ∧
 (
  ((-9223372036854775808 : Int) ≤ ag) ∧
  (ag ≤ (9223372036854775807 : Int))) ∧
 (
  ((-9223372036854775808 : Int) ≤ watch) ∧
  (watch ≤ (9223372036854775807 : Int))) ∧
 (
  ∀ (e_180 : Int),
  (e_180 = fE an la ag watch) →
  (e_180 ≠ (0 : Int)) →
  (
  ((0 : Int) ≤ last) ∧
  (last ≤ (4294967295 : Int))) ∧
  ∀ (n_183 : Int),
  ∀ (e_184 : Int),
  ((n_183, e_184) = if last = (4294967295 : Int) then ((0 : Int), (2 : Int)) else (last + (1 : Int), (0 : Int))) →
  (
  ((0 : Int) ≤ last) ∧
  (last ≤ (4294967295 : Int))) ∧
  ∀ (n_186 : Int),
  ∀ (e_187 : Int),
  ((n_186, e_187) = if last = (4294967295 : Int) then ((0 : Int), (2 : Int)) else (last + (1 : Int), (0 : Int))) →
  br (!(false == b_114 && ((0 : Int) == l_115 && ((0 : Int) == a_116 && true))))
  ((true = true) ∧
   (k (AV.bool false) [] []))
  ((eqMs [] (List.take n_118 (List.drop (0 : Nat) ys_117))) ∧
   ((0 : Nat) ≤ (1048576 : Nat)) ∧
   br (bif bif bif bif bif bif false then true else !true then true else e_1 != (0 : Int) then true else !b_178 == false then true else (0 : Int) != e_180 then true else n_183 != n_186 then true else e_184 != e_187)
   ((k (AV.bool false) [] []))
   ((
    ∃ (v : Int × Nat × List WB),
    (x.fst = x.fst) ∧
    (x.snd = x.snd) ∧
    ((0 : Nat) = (0 : Nat)) ∧
    ((0 : Nat) = v.snd.fst) ∧
    ((0 : Int) = v.fst) ∧
    ([] = v.snd.snd) ∧
    (
     ((0 : Int) ≤ v.fst) ∧
     (v.fst ≤ (↑v.snd.fst : Int))) ∧
    (Wil yb v.snd.fst v.snd.snd)) ∧
    ∀ (v_189 : Int × Nat × List WB),
    (((0 : Int) ≤ v_189.fst ∧ v_189.fst ≤ (↑v_189.snd.fst : Int)) ∧ Wil yb v_189.snd.fst v_189.snd.snd) →
    ∀ (n191 : Int),
    (n191 = (↑v_189.snd.fst : Int)) →
    ((-9223372036854775808 : Int) ≤ n191 ∧ n191 ≤ (9223372036854775807 : Int)) →
    br (decide (v_189.fst < n191))
    ((
     ∃ (v : Int × Int × Nat × List WB),
     (x.fst = x.fst) ∧
     (x.snd = x.snd) ∧
     ((0 : Nat) = (0 : Nat)) ∧
     (v_189.snd.fst = v.snd.snd.fst) ∧
     (v_189.fst = v.snd.fst) ∧
     ((0 : Int) = v.fst) ∧
     (v_189.snd.snd = v.snd.snd.snd) ∧
     (
      ((0 : Int) ≤ v.fst) ∧
      (v.fst ≤ (↑(v.snd.snd.snd.getD v.snd.fst.toNat (dflt (15 : Nat))).n : Int))) ∧
     (
      ((0 : Int) ≤ v.snd.fst) ∧
      (v.snd.fst < (↑v.snd.snd.fst : Int))) ∧
     (v.snd.fst.toNat * (2000000 : Nat) + v.snd.snd.fst = v_189.fst.toNat * (2000000 : Nat) + v_189.snd.fst) ∧
     (Wil yb v.snd.snd.fst v.snd.snd.snd)) ∧
     ∀ (v_194 : Int × Int × Nat × List WB),
     (((0 : Int) ≤ v_194.fst ∧ v_194.fst ≤ (↑(v_194.snd.snd.snd.getD v_194.snd.fst.toNat (dflt (15 : Nat))).n : Int)) ∧ ((0 : Int) ≤ v_194.snd.fst ∧ v_194.snd.fst < (↑v_194.snd.snd.fst : Int)) ∧ v_194.snd.fst.toNat * (2000000 : Nat) + v_194.snd.snd.fst = v_189.fst.toNat * (2000000 : Nat) + v_189.snd.fst ∧ Wil yb v_194.snd.snd.fst v_194.snd.snd.snd) →
     ((0 : Int) ≤ v_194.snd.fst) ∧
     (v_194.snd.fst < (↑v_194.snd.snd.fst : Int)) ∧
     ((0 : Nat) + v_194.snd.fst.toNat < v_194.snd.snd.snd.length) ∧
     ∀ (n196 : Int),
     (n196 = (↑(v_194.snd.snd.snd.getD ((0 : Nat) + v_194.snd.fst.toNat) (dflt (15 : Nat))).n : Int)) →
     ((-9223372036854775808 : Int) ≤ n196 ∧ n196 ≤ (9223372036854775807 : Int)) →
     br (decide (v_194.fst < n196))
     (((0 : Int) ≤ v_194.snd.fst) ∧
      (v_194.snd.fst < (↑v_194.snd.snd.fst : Int)) ∧
      ((0 : Nat) + v_194.snd.fst.toNat < v_194.snd.snd.snd.length) ∧
      ((0 : Int) ≤ v_194.snd.fst) ∧
      (v_194.snd.fst < (↑v_194.snd.snd.fst : Int)) ∧
      ((0 : Nat) + v_194.snd.fst.toNat < v_194.snd.snd.snd.length) ∧
      ((0 : Int) ≤ v_194.fst) ∧
      (v_194.fst < (↑(v_194.snd.snd.snd.getD ((0 : Nat) + v_194.snd.fst.toNat) (dflt (15 : Nat))).n : Int)) ∧
      ((0 : Int) ≤ v_194.fst) ∧
      (v_194.fst < (↑(v_194.snd.snd.snd.getD ((0 : Nat) + v_194.snd.fst.toNat) (dflt (15 : Nat))).n : Int)) ∧
      (yb ≤ (v_194.snd.snd.snd.getD ((0 : Nat) + v_194.snd.fst.toNat) (dflt (15 : Nat))).nb) ∧
      ∀ (n199 : Int),
      (n199 = IntKind.i64.wrap (v_194.fst + (1 : Int))) →
      ((-9223372036854775808 : Int) ≤ n199 ∧ n199 ≤ (9223372036854775807 : Int)) →
      ∃ (v' : Int × Int × Nat × List WB),
      (x.fst = x.fst) ∧
      (x.snd = x.snd) ∧
      ((0 : Nat) = (0 : Nat)) ∧
      (v_194.snd.snd.fst = v'.snd.snd.fst) ∧
      (v_194.snd.fst = v'.snd.fst) ∧
      (n199 = v'.fst) ∧
      (v_194.snd.snd.snd = v'.snd.snd.snd) ∧
      (
      (
       ((0 : Int) ≤ v'.fst) ∧
       (v'.fst ≤ (↑(v'.snd.snd.snd.getD v'.snd.fst.toNat (dflt (15 : Nat))).n : Int))) ∧
      (
       ((0 : Int) ≤ v'.snd.fst) ∧
       (v'.snd.fst < (↑v'.snd.snd.fst : Int))) ∧
      (v'.snd.fst.toNat * (2000000 : Nat) + v'.snd.snd.fst = v_189.fst.toNat * (2000000 : Nat) + v_189.snd.fst) ∧
      (Wil yb v'.snd.snd.fst v'.snd.snd.snd)) ∧
      (((↑(v'.snd.snd.snd.getD v'.snd.fst.toNat (dflt (15 : Nat))).n : Int) - v'.fst).toNat < ((↑(v_194.snd.snd.snd.getD v_194.snd.fst.toNat (dflt (15 : Nat))).n : Int) - v_194.fst).toNat))
     (∀ (n202 : Int),
      (n202 = IntKind.i64.wrap (v_194.snd.fst + (1 : Int))) →
      ((-9223372036854775808 : Int) ≤ n202 ∧ n202 ≤ (9223372036854775807 : Int)) →
      ∃ (v' : Int × Nat × List WB),
      (x.fst = x.fst) ∧
      (x.snd = x.snd) ∧
      ((0 : Nat) = (0 : Nat)) ∧
      (v_194.snd.snd.fst = v'.snd.fst) ∧
      (n202 = v'.fst) ∧
      (v_194.snd.snd.snd = v'.snd.snd) ∧
      (
      (
       ((0 : Int) ≤ v'.fst) ∧
       (v'.fst ≤ (↑v'.snd.fst : Int))) ∧
      (Wil yb v'.snd.fst v'.snd.snd)) ∧
      (((↑v'.snd.fst : Int) - v'.fst).toNat < ((↑v_189.snd.fst : Int) - v_189.fst).toNat)))
    ((x.fst = x.fst) ∧
     (x.snd = x.snd) ∧
     (True))))) ∧
 ((fE an la ag watch = (0 : Int)) →
 ∀ (b_206 : Bool),
 (b_206 = (an && decide (ag < watch))) →
 (
  ((0 : Int) ≤ last) ∧
  (last ≤ (4294967295 : Int))) ∧
 ∀ (n_208 : Int),
 ∀ (e_209 : Int),
 ((n_208, e_209) = if last = (4294967295 : Int) then ((0 : Int), (2 : Int)) else (last + (1 : Int), (0 : Int))) →
 (
  ((0 : Int) ≤ last) ∧
  (last ≤ (4294967295 : Int))) ∧
 ∀ (n_211 : Int),
 ∀ (e_212 : Int),
 ((n_211, e_212) = if last = (4294967295 : Int) then ((0 : Int), (2 : Int)) else (last + (1 : Int), (0 : Int))) →
 br (!(false == b_114 && ((0 : Int) == l_115 && ((0 : Int) == a_116 && true))))
  ((true = true) ∧
  (k (AV.bool false) [] []))
  ((eqMs [] (List.take n_118 (List.drop (0 : Nat) ys_117))) ∧
  ((0 : Nat) ≤ (1048576 : Nat)) ∧
  br (bif bif bif bif bif bif false then true else !true then true else e_1 != (0 : Int) then true else !b_178 == b_206 then true else (0 : Int) != (0 : Int) then true else n_208 != n_211 then true else e_209 != e_212)
   ((k (AV.bool false) [] []))
   ((
    ∃ (v : Int × Nat × List WB),
    (x.fst = x.fst) ∧
    (x.snd = x.snd) ∧
    ((0 : Nat) = (0 : Nat)) ∧
    ((0 : Nat) = v.snd.fst) ∧
    ((0 : Int) = v.fst) ∧
    ([] = v.snd.snd) ∧
    (
    ((0 : Int) ≤ v.fst) ∧
    (v.fst ≤ (↑v.snd.fst : Int))) ∧
    (Wil yb v.snd.fst v.snd.snd)) ∧
   ∀ (v_214 : Int × Nat × List WB),
   (((0 : Int) ≤ v_214.fst ∧ v_214.fst ≤ (↑v_214.snd.fst : Int)) ∧ Wil yb v_214.snd.fst v_214.snd.snd) →
   ∀ (n216 : Int),
   (n216 = (↑v_214.snd.fst : Int)) →
   ((-9223372036854775808 : Int) ≤ n216 ∧ n216 ≤ (9223372036854775807 : Int)) →
   br (decide (v_214.fst < n216))
    ((
     ∃ (v : Int × Int × Nat × List WB),
     (x.fst = x.fst) ∧
     (x.snd = x.snd) ∧
     ((0 : Nat) = (0 : Nat)) ∧
     (v_214.snd.fst = v.snd.snd.fst) ∧
     (v_214.fst = v.snd.fst) ∧
     ((0 : Int) = v.fst) ∧
     (v_214.snd.snd = v.snd.snd.snd) ∧
     (
     ((0 : Int) ≤ v.fst) ∧
     (v.fst ≤ (↑(v.snd.snd.snd.getD v.snd.fst.toNat (dflt (15 : Nat))).n : Int))) ∧
     (
     ((0 : Int) ≤ v.snd.fst) ∧
     (v.snd.fst < (↑v.snd.snd.fst : Int))) ∧
     (v.snd.fst.toNat * (2000000 : Nat) + v.snd.snd.fst = v_214.fst.toNat * (2000000 : Nat) + v_214.snd.fst) ∧
     (Wil yb v.snd.snd.fst v.snd.snd.snd)) ∧
    ∀ (v_219 : Int × Int × Nat × List WB),
    (((0 : Int) ≤ v_219.fst ∧ v_219.fst ≤ (↑(v_219.snd.snd.snd.getD v_219.snd.fst.toNat (dflt (15 : Nat))).n : Int)) ∧ ((0 : Int) ≤ v_219.snd.fst ∧ v_219.snd.fst < (↑v_219.snd.snd.fst : Int)) ∧ v_219.snd.fst.toNat * (2000000 : Nat) + v_219.snd.snd.fst = v_214.fst.toNat * (2000000 : Nat) + v_214.snd.fst ∧ Wil yb v_219.snd.snd.fst v_219.snd.snd.snd) →
    ((0 : Int) ≤ v_219.snd.fst) ∧
    (v_219.snd.fst < (↑v_219.snd.snd.fst : Int)) ∧
    ((0 : Nat) + v_219.snd.fst.toNat < v_219.snd.snd.snd.length) ∧
    ∀ (n221 : Int),
    (n221 = (↑(v_219.snd.snd.snd.getD ((0 : Nat) + v_219.snd.fst.toNat) (dflt (15 : Nat))).n : Int)) →
    ((-9223372036854775808 : Int) ≤ n221 ∧ n221 ≤ (9223372036854775807 : Int)) →
    br (decide (v_219.fst < n221))
     (((0 : Int) ≤ v_219.snd.fst) ∧
     (v_219.snd.fst < (↑v_219.snd.snd.fst : Int)) ∧
     ((0 : Nat) + v_219.snd.fst.toNat < v_219.snd.snd.snd.length) ∧
     ((0 : Int) ≤ v_219.snd.fst) ∧
     (v_219.snd.fst < (↑v_219.snd.snd.fst : Int)) ∧
     ((0 : Nat) + v_219.snd.fst.toNat < v_219.snd.snd.snd.length) ∧
     ((0 : Int) ≤ v_219.fst) ∧
     (v_219.fst < (↑(v_219.snd.snd.snd.getD ((0 : Nat) + v_219.snd.fst.toNat) (dflt (15 : Nat))).n : Int)) ∧
     ((0 : Int) ≤ v_219.fst) ∧
     (v_219.fst < (↑(v_219.snd.snd.snd.getD ((0 : Nat) + v_219.snd.fst.toNat) (dflt (15 : Nat))).n : Int)) ∧
     (yb ≤ (v_219.snd.snd.snd.getD ((0 : Nat) + v_219.snd.fst.toNat) (dflt (15 : Nat))).nb) ∧
     ∀ (n224 : Int),
     (n224 = IntKind.i64.wrap (v_219.fst + (1 : Int))) →
     ((-9223372036854775808 : Int) ≤ n224 ∧ n224 ≤ (9223372036854775807 : Int)) →
     ∃ (v' : Int × Int × Nat × List WB),
     (x.fst = x.fst) ∧
     (x.snd = x.snd) ∧
     ((0 : Nat) = (0 : Nat)) ∧
     (v_219.snd.snd.fst = v'.snd.snd.fst) ∧
     (v_219.snd.fst = v'.snd.fst) ∧
     (n224 = v'.fst) ∧
     (v_219.snd.snd.snd = v'.snd.snd.snd) ∧
     (
      (
      ((0 : Int) ≤ v'.fst) ∧
      (v'.fst ≤ (↑(v'.snd.snd.snd.getD v'.snd.fst.toNat (dflt (15 : Nat))).n : Int))) ∧
      (
      ((0 : Int) ≤ v'.snd.fst) ∧
      (v'.snd.fst < (↑v'.snd.snd.fst : Int))) ∧
      (v'.snd.fst.toNat * (2000000 : Nat) + v'.snd.snd.fst = v_214.fst.toNat * (2000000 : Nat) + v_214.snd.fst) ∧
      (Wil yb v'.snd.snd.fst v'.snd.snd.snd)) ∧
     (((↑(v'.snd.snd.snd.getD v'.snd.fst.toNat (dflt (15 : Nat))).n : Int) - v'.fst).toNat < ((↑(v_219.snd.snd.snd.getD v_219.snd.fst.toNat (dflt (15 : Nat))).n : Int) - v_219.fst).toNat))
     (∀ (n227 : Int),
     (n227 = IntKind.i64.wrap (v_219.snd.fst + (1 : Int))) →
     ((-9223372036854775808 : Int) ≤ n227 ∧ n227 ≤ (9223372036854775807 : Int)) →
     ∃ (v' : Int × Nat × List WB),
     (x.fst = x.fst) ∧
     (x.snd = x.snd) ∧
     ((0 : Nat) = (0 : Nat)) ∧
     (v_219.snd.snd.fst = v'.snd.fst) ∧
     (n227 = v'.fst) ∧
     (v_219.snd.snd.snd = v'.snd.snd) ∧
     (
      (
      ((0 : Int) ≤ v'.fst) ∧
      (v'.fst ≤ (↑v'.snd.fst : Int))) ∧
      (Wil yb v'.snd.fst v'.snd.snd)) ∧
     (((↑v'.snd.fst : Int) - v'.fst).toNat < ((↑v_214.snd.fst : Int) - v_214.fst).toNat)))
    ((x.fst = x.fst) ∧
    (x.snd = x.snd) ∧
    (True)))))))) ∧
 ((lE an la ag got = (0 : Int)) →
 ∀ (b_230 : Bool),
 ∀ (l_231 : Int),
 ∀ (a_232 : Int),
 ∀ (ys_233 : List YMsg),
 ∀ (n_234 : Nat),
 ((b_230, l_231) = stk (an, la) got) →
 ((0 : Int) ≤ l_231 ∧ l_231 ≤ (4294967295 : Int)) →
 (ys_233 = List.map (yng yb) (tk (an, la) got)) →
 (ys_233.length = n_234) →
 (a_232 = ageN ag n_234) →
 (
 ((0 : Int) ≤ la) ∧
 (la ≤ (4294967295 : Int))) ∧
 (
 ((-9223372036854775808 : Int) ≤ ag) ∧
 (ag ≤ (9223372036854775807 : Int))) ∧
 (small got) ∧
 (
 ∀ (e_240 : Int),
 (e_240 = lE an la ag got) →
 (e_240 ≠ (0 : Int)) →
 (
  ((0 : Int) ≤ la) ∧
  (la ≤ (4294967295 : Int))) ∧
 (
  ((-9223372036854775808 : Int) ≤ ag) ∧
  (ag ≤ (9223372036854775807 : Int))) ∧
 (
  ((-9223372036854775808 : Int) ≤ watch) ∧
  (watch ≤ (9223372036854775807 : Int))) ∧
 (
  ∀ (e_243 : Int),
  (e_243 = fE an la ag watch) →
  (e_243 ≠ (0 : Int)) →
  (
  ((0 : Int) ≤ la) ∧
  (la ≤ (4294967295 : Int))) ∧
  (
  ((-9223372036854775808 : Int) ≤ ag) ∧
  (ag ≤ (9223372036854775807 : Int))) ∧
  (
  ((-9223372036854775808 : Int) ≤ watch) ∧
  (watch ≤ (9223372036854775807 : Int))) ∧
  (
  ∀ (e_246 : Int),
  (e_246 = fE an la ag watch) →
  (e_246 ≠ (0 : Int)) →
  (
   ((0 : Int) ≤ last) ∧
   (last ≤ (4294967295 : Int))) ∧
  ∀ (n_249 : Int),
  ∀ (e_250 : Int),
  ((n_249, e_250) = if last = (4294967295 : Int) then ((0 : Int), (2 : Int)) else (last + (1 : Int), (0 : Int))) →
  (
   ((0 : Int) ≤ last) ∧
   (last ≤ (4294967295 : Int))) ∧
  ∀ (n_252 : Int),
  ∀ (e_253 : Int),
  ((n_252, e_253) = if last = (4294967295 : Int) then ((0 : Int), (2 : Int)) else (last + (1 : Int), (0 : Int))) →
  br (!(b_230 == false && (l_231 == (0 : Int) && (a_232 == (0 : Int) && true))))
   ((true = true) ∧
   (k (AV.bool false) [] []))
   ((eqMs (List.map YMsg.old (List.take n_234 (List.drop (0 : Nat) ys_233))) []) ∧
   ((List.map YMsg.old (List.take n_234 (List.drop (0 : Nat) ys_233))).length ≤ (1048576 : Nat)) ∧
   br (bif bif bif bif bif bif false then true else !true then true else (0 : Int) != e_240 then true else !false == false then true else e_243 != e_246 then true else n_249 != n_252 then true else e_250 != e_253)
    ((k (AV.bool false) [] []))
    ((
     ∃ (v : Int × Nat × List WB),
     (x.fst = x.fst) ∧
     (x.snd = x.snd) ∧
     ((0 : Nat) = (0 : Nat)) ∧
     (n_234 = v.snd.fst) ∧
     ((0 : Int) = v.fst) ∧
     (List.map YMsg.wild ys_233 = v.snd.snd) ∧
     (
     ((0 : Int) ≤ v.fst) ∧
     (v.fst ≤ (↑v.snd.fst : Int))) ∧
     (Wil yb v.snd.fst v.snd.snd)) ∧
    ∀ (v_255 : Int × Nat × List WB),
    (((0 : Int) ≤ v_255.fst ∧ v_255.fst ≤ (↑v_255.snd.fst : Int)) ∧ Wil yb v_255.snd.fst v_255.snd.snd) →
    ∀ (n257 : Int),
    (n257 = (↑v_255.snd.fst : Int)) →
    ((-9223372036854775808 : Int) ≤ n257 ∧ n257 ≤ (9223372036854775807 : Int)) →
    br (decide (v_255.fst < n257))
     ((
      ∃ (v : Int × Int × Nat × List WB),
      (x.fst = x.fst) ∧
      (x.snd = x.snd) ∧
      ((0 : Nat) = (0 : Nat)) ∧
      (v_255.snd.fst = v.snd.snd.fst) ∧
      (v_255.fst = v.snd.fst) ∧
      ((0 : Int) = v.fst) ∧
      (v_255.snd.snd = v.snd.snd.snd) ∧
      (
      ((0 : Int) ≤ v.fst) ∧
      (v.fst ≤ (↑(v.snd.snd.snd.getD v.snd.fst.toNat (dflt (15 : Nat))).n : Int))) ∧
      (
      ((0 : Int) ≤ v.snd.fst) ∧
      (v.snd.fst < (↑v.snd.snd.fst : Int))) ∧
      (v.snd.fst.toNat * (2000000 : Nat) + v.snd.snd.fst = v_255.fst.toNat * (2000000 : Nat) + v_255.snd.fst) ∧
      (Wil yb v.snd.snd.fst v.snd.snd.snd)) ∧
     ∀ (v_260 : Int × Int × Nat × List WB),
     (((0 : Int) ≤ v_260.fst ∧ v_260.fst ≤ (↑(v_260.snd.snd.snd.getD v_260.snd.fst.toNat (dflt (15 : Nat))).n : Int)) ∧ ((0 : Int) ≤ v_260.snd.fst ∧ v_260.snd.fst < (↑v_260.snd.snd.fst : Int)) ∧ v_260.snd.fst.toNat * (2000000 : Nat) + v_260.snd.snd.fst = v_255.fst.toNat * (2000000 : Nat) + v_255.snd.fst ∧ Wil yb v_260.snd.snd.fst v_260.snd.snd.snd) →
     ((0 : Int) ≤ v_260.snd.fst) ∧
     (v_260.snd.fst < (↑v_260.snd.snd.fst : Int)) ∧
     ((0 : Nat) + v_260.snd.fst.toNat < v_260.snd.snd.snd.length) ∧
     ∀ (n262 : Int),
     (n262 = (↑(v_260.snd.snd.snd.getD ((0 : Nat) + v_260.snd.fst.toNat) (dflt (15 : Nat))).n : Int)) →
     ((-9223372036854775808 : Int) ≤ n262 ∧ n262 ≤ (9223372036854775807 : Int)) →
     br (decide (v_260.fst < n262))
      (((0 : Int) ≤ v_260.snd.fst) ∧
      (v_260.snd.fst < (↑v_260.snd.snd.fst : Int)) ∧
      ((0 : Nat) + v_260.snd.fst.toNat < v_260.snd.snd.snd.length) ∧
      ((0 : Int) ≤ v_260.snd.fst) ∧
      (v_260.snd.fst < (↑v_260.snd.snd.fst : Int)) ∧
      ((0 : Nat) + v_260.snd.fst.toNat < v_260.snd.snd.snd.length) ∧
      ((0 : Int) ≤ v_260.fst) ∧
      (v_260.fst < (↑(v_260.snd.snd.snd.getD ((0 : Nat) + v_260.snd.fst.toNat) (dflt (15 : Nat))).n : Int)) ∧
      ((0 : Int) ≤ v_260.fst) ∧
      (v_260.fst < (↑(v_260.snd.snd.snd.getD ((0 : Nat) + v_260.snd.fst.toNat) (dflt (15 : Nat))).n : Int)) ∧
      (yb ≤ (v_260.snd.snd.snd.getD ((0 : Nat) + v_260.snd.fst.toNat) (dflt (15 : Nat))).nb) ∧
      ∀ (n265 : Int),
      (n265 = IntKind.i64.wrap (v_260.fst + (1 : Int))) →
      ((-9223372036854775808 : Int) ≤ n265 ∧ n265 ≤ (9223372036854775807 : Int)) →
      ∃ (v' : Int × Int × Nat × List WB),
      (x.fst = x.fst) ∧
      (x.snd = x.snd) ∧
      ((0 : Nat) = (0 : Nat)) ∧
      (v_260.snd.snd.fst = v'.snd.snd.fst) ∧
      (v_260.snd.fst = v'.snd.fst) ∧
      (n265 = v'.fst) ∧
      (v_260.snd.snd.snd = v'.snd.snd.snd) ∧
      (
       (
       ((0 : Int) ≤ v'.fst) ∧
       (v'.fst ≤ (↑(v'.snd.snd.snd.getD v'.snd.fst.toNat (dflt (15 : Nat))).n : Int))) ∧
       (
       ((0 : Int) ≤ v'.snd.fst) ∧
       (v'.snd.fst < (↑v'.snd.snd.fst : Int))) ∧
       (v'.snd.fst.toNat * (2000000 : Nat) + v'.snd.snd.fst = v_255.fst.toNat * (2000000 : Nat) + v_255.snd.fst) ∧
       (Wil yb v'.snd.snd.fst v'.snd.snd.snd)) ∧
      (((↑(v'.snd.snd.snd.getD v'.snd.fst.toNat (dflt (15 : Nat))).n : Int) - v'.fst).toNat < ((↑(v_260.snd.snd.snd.getD v_260.snd.fst.toNat (dflt (15 : Nat))).n : Int) - v_260.fst).toNat))
      (∀ (n268 : Int),
      (n268 = IntKind.i64.wrap (v_260.snd.fst + (1 : Int))) →
      ((-9223372036854775808 : Int) ≤ n268 ∧ n268 ≤ (9223372036854775807 : Int)) →
      ∃ (v' : Int × Nat × List WB),
      (x.fst = x.fst) ∧
      (x.snd = x.snd) ∧
      ((0 : Nat) = (0 : Nat)) ∧
      (v_260.snd.snd.fst = v'.snd.fst) ∧
      (n268 = v'.fst) ∧
      (v_260.snd.snd.snd = v'.snd.snd) ∧
      (
       (
       ((0 : Int) ≤ v'.fst) ∧
       (v'.fst ≤ (↑v'.snd.fst : Int))) ∧
       (Wil yb v'.snd.fst v'.snd.snd)) ∧
      (((↑v'.snd.fst : Int) - v'.fst).toNat < ((↑v_255.snd.fst : Int) - v_255.fst).toNat)))
     ((x.fst = x.fst) ∧
     (x.snd = x.snd) ∧
     (True))))) ∧
  ((fE an la ag watch = (0 : Int)) →
  ∀ (b_272 : Bool),
  (b_272 = (an && decide (ag < watch))) →
  (
  ((0 : Int) ≤ last) ∧
  (last ≤ (4294967295 : Int))) ∧
  ∀ (n_274 : Int),
  ∀ (e_275 : Int),
  ((n_274, e_275) = if last = (4294967295 : Int) then ((0 : Int), (2 : Int)) else (last + (1 : Int), (0 : Int))) →
  (
  ((0 : Int) ≤ last) ∧
  (last ≤ (4294967295 : Int))) ∧
  ∀ (n_277 : Int),
  ∀ (e_278 : Int),
  ((n_277, e_278) = if last = (4294967295 : Int) then ((0 : Int), (2 : Int)) else (last + (1 : Int), (0 : Int))) →
  br (!(b_230 == false && (l_231 == (0 : Int) && (a_232 == (0 : Int) && true))))
  ((true = true) ∧
   (k (AV.bool false) [] []))
  ((eqMs (List.map YMsg.old (List.take n_234 (List.drop (0 : Nat) ys_233))) []) ∧
   ((List.map YMsg.old (List.take n_234 (List.drop (0 : Nat) ys_233))).length ≤ (1048576 : Nat)) ∧
   br (bif bif bif bif bif bif false then true else !true then true else (0 : Int) != e_240 then true else !false == b_272 then true else e_243 != (0 : Int) then true else n_274 != n_277 then true else e_275 != e_278)
   ((k (AV.bool false) [] []))
   ((
    ∃ (v : Int × Nat × List WB),
    (x.fst = x.fst) ∧
    (x.snd = x.snd) ∧
    ((0 : Nat) = (0 : Nat)) ∧
    (n_234 = v.snd.fst) ∧
    ((0 : Int) = v.fst) ∧
    (List.map YMsg.wild ys_233 = v.snd.snd) ∧
    (
     ((0 : Int) ≤ v.fst) ∧
     (v.fst ≤ (↑v.snd.fst : Int))) ∧
    (Wil yb v.snd.fst v.snd.snd)) ∧
    ∀ (v_280 : Int × Nat × List WB),
    (((0 : Int) ≤ v_280.fst ∧ v_280.fst ≤ (↑v_280.snd.fst : Int)) ∧ Wil yb v_280.snd.fst v_280.snd.snd) →
    ∀ (n282 : Int),
    (n282 = (↑v_280.snd.fst : Int)) →
    ((-9223372036854775808 : Int) ≤ n282 ∧ n282 ≤ (9223372036854775807 : Int)) →
    br (decide (v_280.fst < n282))
    ((
     ∃ (v : Int × Int × Nat × List WB),
     (x.fst = x.fst) ∧
     (x.snd = x.snd) ∧
     ((0 : Nat) = (0 : Nat)) ∧
     (v_280.snd.fst = v.snd.snd.fst) ∧
     (v_280.fst = v.snd.fst) ∧
     ((0 : Int) = v.fst) ∧
     (v_280.snd.snd = v.snd.snd.snd) ∧
     (
      ((0 : Int) ≤ v.fst) ∧
      (v.fst ≤ (↑(v.snd.snd.snd.getD v.snd.fst.toNat (dflt (15 : Nat))).n : Int))) ∧
     (
      ((0 : Int) ≤ v.snd.fst) ∧
      (v.snd.fst < (↑v.snd.snd.fst : Int))) ∧
     (v.snd.fst.toNat * (2000000 : Nat) + v.snd.snd.fst = v_280.fst.toNat * (2000000 : Nat) + v_280.snd.fst) ∧
     (Wil yb v.snd.snd.fst v.snd.snd.snd)) ∧
     ∀ (v_285 : Int × Int × Nat × List WB),
     (((0 : Int) ≤ v_285.fst ∧ v_285.fst ≤ (↑(v_285.snd.snd.snd.getD v_285.snd.fst.toNat (dflt (15 : Nat))).n : Int)) ∧ ((0 : Int) ≤ v_285.snd.fst ∧ v_285.snd.fst < (↑v_285.snd.snd.fst : Int)) ∧ v_285.snd.fst.toNat * (2000000 : Nat) + v_285.snd.snd.fst = v_280.fst.toNat * (2000000 : Nat) + v_280.snd.fst ∧ Wil yb v_285.snd.snd.fst v_285.snd.snd.snd) →
     ((0 : Int) ≤ v_285.snd.fst) ∧
     (v_285.snd.fst < (↑v_285.snd.snd.fst : Int)) ∧
     ((0 : Nat) + v_285.snd.fst.toNat < v_285.snd.snd.snd.length) ∧
     ∀ (n287 : Int),
     (n287 = (↑(v_285.snd.snd.snd.getD ((0 : Nat) + v_285.snd.fst.toNat) (dflt (15 : Nat))).n : Int)) →
     ((-9223372036854775808 : Int) ≤ n287 ∧ n287 ≤ (9223372036854775807 : Int)) →
     br (decide (v_285.fst < n287))
     (((0 : Int) ≤ v_285.snd.fst) ∧
      (v_285.snd.fst < (↑v_285.snd.snd.fst : Int)) ∧
      ((0 : Nat) + v_285.snd.fst.toNat < v_285.snd.snd.snd.length) ∧
      ((0 : Int) ≤ v_285.snd.fst) ∧
      (v_285.snd.fst < (↑v_285.snd.snd.fst : Int)) ∧
      ((0 : Nat) + v_285.snd.fst.toNat < v_285.snd.snd.snd.length) ∧
      ((0 : Int) ≤ v_285.fst) ∧
      (v_285.fst < (↑(v_285.snd.snd.snd.getD ((0 : Nat) + v_285.snd.fst.toNat) (dflt (15 : Nat))).n : Int)) ∧
      ((0 : Int) ≤ v_285.fst) ∧
      (v_285.fst < (↑(v_285.snd.snd.snd.getD ((0 : Nat) + v_285.snd.fst.toNat) (dflt (15 : Nat))).n : Int)) ∧
      (yb ≤ (v_285.snd.snd.snd.getD ((0 : Nat) + v_285.snd.fst.toNat) (dflt (15 : Nat))).nb) ∧
      ∀ (n290 : Int),
      (n290 = IntKind.i64.wrap (v_285.fst + (1 : Int))) →
      ((-9223372036854775808 : Int) ≤ n290 ∧ n290 ≤ (9223372036854775807 : Int)) →
      ∃ (v' : Int × Int × Nat × List WB),
      (x.fst = x.fst) ∧
      (x.snd = x.snd) ∧
      ((0 : Nat) = (0 : Nat)) ∧
      (v_285.snd.snd.fst = v'.snd.snd.fst) ∧
      (v_285.snd.fst = v'.snd.fst) ∧
      (n290 = v'.fst) ∧
      (v_285.snd.snd.snd = v'.snd.snd.snd) ∧
      (
      (
       ((0 : Int) ≤ v'.fst) ∧
       (v'.fst ≤ (↑(v'.snd.snd.snd.getD v'.snd.fst.toNat (dflt (15 : Nat))).n : Int))) ∧
      (
       ((0 : Int) ≤ v'.snd.fst) ∧
       (v'.snd.fst < (↑v'.snd.snd.fst : Int))) ∧
      (v'.snd.fst.toNat * (2000000 : Nat) + v'.snd.snd.fst = v_280.fst.toNat * (2000000 : Nat) + v_280.snd.fst) ∧
      (Wil yb v'.snd.snd.fst v'.snd.snd.snd)) ∧
      (((↑(v'.snd.snd.snd.getD v'.snd.fst.toNat (dflt (15 : Nat))).n : Int) - v'.fst).toNat < ((↑(v_285.snd.snd.snd.getD v_285.snd.fst.toNat (dflt (15 : Nat))).n : Int) - v_285.fst).toNat))
     (∀ (n293 : Int),
      (n293 = IntKind.i64.wrap (v_285.snd.fst + (1 : Int))) →
      ((-9223372036854775808 : Int) ≤ n293 ∧ n293 ≤ (9223372036854775807 : Int)) →
      ∃ (v' : Int × Nat × List WB),
      (x.fst = x.fst) ∧
      (x.snd = x.snd) ∧
      ((0 : Nat) = (0 : Nat)) ∧
      (v_285.snd.snd.fst = v'.snd.fst) ∧
      (n293 = v'.fst) ∧
      (v_285.snd.snd.snd = v'.snd.snd) ∧
      (
      (
       ((0 : Int) ≤ v'.fst) ∧
       (v'.fst ≤ (↑v'.snd.fst : Int))) ∧
      (Wil yb v'.snd.fst v'.snd.snd)) ∧
      (((↑v'.snd.fst : Int) - v'.fst).toNat < ((↑v_280.snd.fst : Int) - v_280.fst).toNat)))
    ((x.fst = x.fst) ∧
     (x.snd = x.snd) ∧
     (True)))))) ∧
 ((fE an la ag watch = (0 : Int)) →
 ∀ (b_297 : Bool),
 (b_297 = (an && decide (ag < watch))) →
 (
  ((0 : Int) ≤ la) ∧
  (la ≤ (4294967295 : Int))) ∧
 (
  ((-9223372036854775808 : Int) ≤ ag) ∧
  (ag ≤ (9223372036854775807 : Int))) ∧
 (
  ((-9223372036854775808 : Int) ≤ watch) ∧
  (watch ≤ (9223372036854775807 : Int))) ∧
 (
  ∀ (e_299 : Int),
  (e_299 = fE an la ag watch) →
  (e_299 ≠ (0 : Int)) →
  (
  ((0 : Int) ≤ last) ∧
  (last ≤ (4294967295 : Int))) ∧
  ∀ (n_302 : Int),
  ∀ (e_303 : Int),
  ((n_302, e_303) = if last = (4294967295 : Int) then ((0 : Int), (2 : Int)) else (last + (1 : Int), (0 : Int))) →
  (
  ((0 : Int) ≤ last) ∧
  (last ≤ (4294967295 : Int))) ∧
  ∀ (n_305 : Int),
  ∀ (e_306 : Int),
  ((n_305, e_306) = if last = (4294967295 : Int) then ((0 : Int), (2 : Int)) else (last + (1 : Int), (0 : Int))) →
  br (!(b_230 == false && (l_231 == (0 : Int) && (a_232 == (0 : Int) && true))))
  ((true = true) ∧
   (k (AV.bool false) [] []))
  ((eqMs (List.map YMsg.old (List.take n_234 (List.drop (0 : Nat) ys_233))) []) ∧
   ((List.map YMsg.old (List.take n_234 (List.drop (0 : Nat) ys_233))).length ≤ (1048576 : Nat)) ∧
   br (bif bif bif bif bif bif false then true else !true then true else (0 : Int) != e_240 then true else !b_297 == false then true else (0 : Int) != e_299 then true else n_302 != n_305 then true else e_303 != e_306)
   ((k (AV.bool false) [] []))
   ((
    ∃ (v : Int × Nat × List WB),
    (x.fst = x.fst) ∧
    (x.snd = x.snd) ∧
    ((0 : Nat) = (0 : Nat)) ∧
    (n_234 = v.snd.fst) ∧
    ((0 : Int) = v.fst) ∧
    (List.map YMsg.wild ys_233 = v.snd.snd) ∧
    (
     ((0 : Int) ≤ v.fst) ∧
     (v.fst ≤ (↑v.snd.fst : Int))) ∧
    (Wil yb v.snd.fst v.snd.snd)) ∧
    ∀ (v_308 : Int × Nat × List WB),
    (((0 : Int) ≤ v_308.fst ∧ v_308.fst ≤ (↑v_308.snd.fst : Int)) ∧ Wil yb v_308.snd.fst v_308.snd.snd) →
    ∀ (n310 : Int),
    (n310 = (↑v_308.snd.fst : Int)) →
    ((-9223372036854775808 : Int) ≤ n310 ∧ n310 ≤ (9223372036854775807 : Int)) →
    br (decide (v_308.fst < n310))
    ((
     ∃ (v : Int × Int × Nat × List WB),
     (x.fst = x.fst) ∧
     (x.snd = x.snd) ∧
     ((0 : Nat) = (0 : Nat)) ∧
     (v_308.snd.fst = v.snd.snd.fst) ∧
     (v_308.fst = v.snd.fst) ∧
     ((0 : Int) = v.fst) ∧
     (v_308.snd.snd = v.snd.snd.snd) ∧
     (
      ((0 : Int) ≤ v.fst) ∧
      (v.fst ≤ (↑(v.snd.snd.snd.getD v.snd.fst.toNat (dflt (15 : Nat))).n : Int))) ∧
     (
      ((0 : Int) ≤ v.snd.fst) ∧
      (v.snd.fst < (↑v.snd.snd.fst : Int))) ∧
     (v.snd.fst.toNat * (2000000 : Nat) + v.snd.snd.fst = v_308.fst.toNat * (2000000 : Nat) + v_308.snd.fst) ∧
     (Wil yb v.snd.snd.fst v.snd.snd.snd)) ∧
     ∀ (v_313 : Int × Int × Nat × List WB),
     (((0 : Int) ≤ v_313.fst ∧ v_313.fst ≤ (↑(v_313.snd.snd.snd.getD v_313.snd.fst.toNat (dflt (15 : Nat))).n : Int)) ∧ ((0 : Int) ≤ v_313.snd.fst ∧ v_313.snd.fst < (↑v_313.snd.snd.fst : Int)) ∧ v_313.snd.fst.toNat * (2000000 : Nat) + v_313.snd.snd.fst = v_308.fst.toNat * (2000000 : Nat) + v_308.snd.fst ∧ Wil yb v_313.snd.snd.fst v_313.snd.snd.snd) →
     ((0 : Int) ≤ v_313.snd.fst) ∧
     (v_313.snd.fst < (↑v_313.snd.snd.fst : Int)) ∧
     ((0 : Nat) + v_313.snd.fst.toNat < v_313.snd.snd.snd.length) ∧
     ∀ (n315 : Int),
     (n315 = (↑(v_313.snd.snd.snd.getD ((0 : Nat) + v_313.snd.fst.toNat) (dflt (15 : Nat))).n : Int)) →
     ((-9223372036854775808 : Int) ≤ n315 ∧ n315 ≤ (9223372036854775807 : Int)) →
     br (decide (v_313.fst < n315))
     (((0 : Int) ≤ v_313.snd.fst) ∧
      (v_313.snd.fst < (↑v_313.snd.snd.fst : Int)) ∧
      ((0 : Nat) + v_313.snd.fst.toNat < v_313.snd.snd.snd.length) ∧
      ((0 : Int) ≤ v_313.snd.fst) ∧
      (v_313.snd.fst < (↑v_313.snd.snd.fst : Int)) ∧
      ((0 : Nat) + v_313.snd.fst.toNat < v_313.snd.snd.snd.length) ∧
      ((0 : Int) ≤ v_313.fst) ∧
      (v_313.fst < (↑(v_313.snd.snd.snd.getD ((0 : Nat) + v_313.snd.fst.toNat) (dflt (15 : Nat))).n : Int)) ∧
      ((0 : Int) ≤ v_313.fst) ∧
      (v_313.fst < (↑(v_313.snd.snd.snd.getD ((0 : Nat) + v_313.snd.fst.toNat) (dflt (15 : Nat))).n : Int)) ∧
      (yb ≤ (v_313.snd.snd.snd.getD ((0 : Nat) + v_313.snd.fst.toNat) (dflt (15 : Nat))).nb) ∧
      ∀ (n318 : Int),
      (n318 = IntKind.i64.wrap (v_313.fst + (1 : Int))) →
      ((-9223372036854775808 : Int) ≤ n318 ∧ n318 ≤ (9223372036854775807 : Int)) →
      ∃ (v' : Int × Int × Nat × List WB),
      (x.fst = x.fst) ∧
      (x.snd = x.snd) ∧
      ((0 : Nat) = (0 : Nat)) ∧
      (v_313.snd.snd.fst = v'.snd.snd.fst) ∧
      (v_313.snd.fst = v'.snd.fst) ∧
      (n318 = v'.fst) ∧
      (v_313.snd.snd.snd = v'.snd.snd.snd) ∧
      (
      (
       ((0 : Int) ≤ v'.fst) ∧
       (v'.fst ≤ (↑(v'.snd.snd.snd.getD v'.snd.fst.toNat (dflt (15 : Nat))).n : Int))) ∧
      (
       ((0 : Int) ≤ v'.snd.fst) ∧
       (v'.snd.fst < (↑v'.snd.snd.fst : Int))) ∧
      (v'.snd.fst.toNat * (2000000 : Nat) + v'.snd.snd.fst = v_308.fst.toNat * (2000000 : Nat) + v_308.snd.fst) ∧
      (Wil yb v'.snd.snd.fst v'.snd.snd.snd)) ∧
      (((↑(v'.snd.snd.snd.getD v'.snd.fst.toNat (dflt (15 : Nat))).n : Int) - v'.fst).toNat < ((↑(v_313.snd.snd.snd.getD v_313.snd.fst.toNat (dflt (15 : Nat))).n : Int) - v_313.fst).toNat))
     (∀ (n321 : Int),
      (n321 = IntKind.i64.wrap (v_313.snd.fst + (1 : Int))) →
      ((-9223372036854775808 : Int) ≤ n321 ∧ n321 ≤ (9223372036854775807 : Int)) →
      ∃ (v' : Int × Nat × List WB),
      (x.fst = x.fst) ∧
      (x.snd = x.snd) ∧
      ((0 : Nat) = (0 : Nat)) ∧
      (v_313.snd.snd.fst = v'.snd.fst) ∧
      (n321 = v'.fst) ∧
      (v_313.snd.snd.snd = v'.snd.snd) ∧
      (
      (
       ((0 : Int) ≤ v'.fst) ∧
       (v'.fst ≤ (↑v'.snd.fst : Int))) ∧
      (Wil yb v'.snd.fst v'.snd.snd)) ∧
      (((↑v'.snd.fst : Int) - v'.fst).toNat < ((↑v_308.snd.fst : Int) - v_308.fst).toNat)))
    ((x.fst = x.fst) ∧
     (x.snd = x.snd) ∧
     (True))))) ∧
 ((fE an la ag watch = (0 : Int)) →
 ∀ (b_325 : Bool),
 (b_325 = (an && decide (ag < watch))) →
 (
  ((0 : Int) ≤ last) ∧
  (last ≤ (4294967295 : Int))) ∧
 ∀ (n_327 : Int),
 ∀ (e_328 : Int),
 ((n_327, e_328) = if last = (4294967295 : Int) then ((0 : Int), (2 : Int)) else (last + (1 : Int), (0 : Int))) →
 (
  ((0 : Int) ≤ last) ∧
  (last ≤ (4294967295 : Int))) ∧
 ∀ (n_330 : Int),
 ∀ (e_331 : Int),
 ((n_330, e_331) = if last = (4294967295 : Int) then ((0 : Int), (2 : Int)) else (last + (1 : Int), (0 : Int))) →
 br (!(b_230 == false && (l_231 == (0 : Int) && (a_232 == (0 : Int) && true))))
  ((true = true) ∧
  (k (AV.bool false) [] []))
  ((eqMs (List.map YMsg.old (List.take n_234 (List.drop (0 : Nat) ys_233))) []) ∧
  ((List.map YMsg.old (List.take n_234 (List.drop (0 : Nat) ys_233))).length ≤ (1048576 : Nat)) ∧
  br (bif bif bif bif bif bif false then true else !true then true else (0 : Int) != e_240 then true else !b_297 == b_325 then true else (0 : Int) != (0 : Int) then true else n_327 != n_330 then true else e_328 != e_331)
   ((k (AV.bool false) [] []))
   ((
    ∃ (v : Int × Nat × List WB),
    (x.fst = x.fst) ∧
    (x.snd = x.snd) ∧
    ((0 : Nat) = (0 : Nat)) ∧
    (n_234 = v.snd.fst) ∧
    ((0 : Int) = v.fst) ∧
    (List.map YMsg.wild ys_233 = v.snd.snd) ∧
    (
    ((0 : Int) ≤ v.fst) ∧
    (v.fst ≤ (↑v.snd.fst : Int))) ∧
    (Wil yb v.snd.fst v.snd.snd)) ∧
   ∀ (v_333 : Int × Nat × List WB),
   (((0 : Int) ≤ v_333.fst ∧ v_333.fst ≤ (↑v_333.snd.fst : Int)) ∧ Wil yb v_333.snd.fst v_333.snd.snd) →
   ∀ (n335 : Int),
   (n335 = (↑v_333.snd.fst : Int)) →
   ((-9223372036854775808 : Int) ≤ n335 ∧ n335 ≤ (9223372036854775807 : Int)) →
   br (decide (v_333.fst < n335))
    ((
     ∃ (v : Int × Int × Nat × List WB),
     (x.fst = x.fst) ∧
     (x.snd = x.snd) ∧
     ((0 : Nat) = (0 : Nat)) ∧
     (v_333.snd.fst = v.snd.snd.fst) ∧
     (v_333.fst = v.snd.fst) ∧
     ((0 : Int) = v.fst) ∧
     (v_333.snd.snd = v.snd.snd.snd) ∧
     (
     ((0 : Int) ≤ v.fst) ∧
     (v.fst ≤ (↑(v.snd.snd.snd.getD v.snd.fst.toNat (dflt (15 : Nat))).n : Int))) ∧
     (
     ((0 : Int) ≤ v.snd.fst) ∧
     (v.snd.fst < (↑v.snd.snd.fst : Int))) ∧
     (v.snd.fst.toNat * (2000000 : Nat) + v.snd.snd.fst = v_333.fst.toNat * (2000000 : Nat) + v_333.snd.fst) ∧
     (Wil yb v.snd.snd.fst v.snd.snd.snd)) ∧
    ∀ (v_338 : Int × Int × Nat × List WB),
    (((0 : Int) ≤ v_338.fst ∧ v_338.fst ≤ (↑(v_338.snd.snd.snd.getD v_338.snd.fst.toNat (dflt (15 : Nat))).n : Int)) ∧ ((0 : Int) ≤ v_338.snd.fst ∧ v_338.snd.fst < (↑v_338.snd.snd.fst : Int)) ∧ v_338.snd.fst.toNat * (2000000 : Nat) + v_338.snd.snd.fst = v_333.fst.toNat * (2000000 : Nat) + v_333.snd.fst ∧ Wil yb v_338.snd.snd.fst v_338.snd.snd.snd) →
    ((0 : Int) ≤ v_338.snd.fst) ∧
    (v_338.snd.fst < (↑v_338.snd.snd.fst : Int)) ∧
    ((0 : Nat) + v_338.snd.fst.toNat < v_338.snd.snd.snd.length) ∧
    ∀ (n340 : Int),
    (n340 = (↑(v_338.snd.snd.snd.getD ((0 : Nat) + v_338.snd.fst.toNat) (dflt (15 : Nat))).n : Int)) →
    ((-9223372036854775808 : Int) ≤ n340 ∧ n340 ≤ (9223372036854775807 : Int)) →
    br (decide (v_338.fst < n340))
     (((0 : Int) ≤ v_338.snd.fst) ∧
     (v_338.snd.fst < (↑v_338.snd.snd.fst : Int)) ∧
     ((0 : Nat) + v_338.snd.fst.toNat < v_338.snd.snd.snd.length) ∧
     ((0 : Int) ≤ v_338.snd.fst) ∧
     (v_338.snd.fst < (↑v_338.snd.snd.fst : Int)) ∧
     ((0 : Nat) + v_338.snd.fst.toNat < v_338.snd.snd.snd.length) ∧
     ((0 : Int) ≤ v_338.fst) ∧
     (v_338.fst < (↑(v_338.snd.snd.snd.getD ((0 : Nat) + v_338.snd.fst.toNat) (dflt (15 : Nat))).n : Int)) ∧
     ((0 : Int) ≤ v_338.fst) ∧
     (v_338.fst < (↑(v_338.snd.snd.snd.getD ((0 : Nat) + v_338.snd.fst.toNat) (dflt (15 : Nat))).n : Int)) ∧
     (yb ≤ (v_338.snd.snd.snd.getD ((0 : Nat) + v_338.snd.fst.toNat) (dflt (15 : Nat))).nb) ∧
     ∀ (n343 : Int),
     (n343 = IntKind.i64.wrap (v_338.fst + (1 : Int))) →
     ((-9223372036854775808 : Int) ≤ n343 ∧ n343 ≤ (9223372036854775807 : Int)) →
     ∃ (v' : Int × Int × Nat × List WB),
     (x.fst = x.fst) ∧
     (x.snd = x.snd) ∧
     ((0 : Nat) = (0 : Nat)) ∧
     (v_338.snd.snd.fst = v'.snd.snd.fst) ∧
     (v_338.snd.fst = v'.snd.fst) ∧
     (n343 = v'.fst) ∧
     (v_338.snd.snd.snd = v'.snd.snd.snd) ∧
     (
      (
      ((0 : Int) ≤ v'.fst) ∧
      (v'.fst ≤ (↑(v'.snd.snd.snd.getD v'.snd.fst.toNat (dflt (15 : Nat))).n : Int))) ∧
      (
      ((0 : Int) ≤ v'.snd.fst) ∧
      (v'.snd.fst < (↑v'.snd.snd.fst : Int))) ∧
      (v'.snd.fst.toNat * (2000000 : Nat) + v'.snd.snd.fst = v_333.fst.toNat * (2000000 : Nat) + v_333.snd.fst) ∧
      (Wil yb v'.snd.snd.fst v'.snd.snd.snd)) ∧
     (((↑(v'.snd.snd.snd.getD v'.snd.fst.toNat (dflt (15 : Nat))).n : Int) - v'.fst).toNat < ((↑(v_338.snd.snd.snd.getD v_338.snd.fst.toNat (dflt (15 : Nat))).n : Int) - v_338.fst).toNat))
     (∀ (n346 : Int),
     (n346 = IntKind.i64.wrap (v_338.snd.fst + (1 : Int))) →
     ((-9223372036854775808 : Int) ≤ n346 ∧ n346 ≤ (9223372036854775807 : Int)) →
     ∃ (v' : Int × Nat × List WB),
     (x.fst = x.fst) ∧
     (x.snd = x.snd) ∧
     ((0 : Nat) = (0 : Nat)) ∧
     (v_338.snd.snd.fst = v'.snd.fst) ∧
     (n346 = v'.fst) ∧
     (v_338.snd.snd.snd = v'.snd.snd) ∧
     (
      (
      ((0 : Int) ≤ v'.fst) ∧
      (v'.fst ≤ (↑v'.snd.fst : Int))) ∧
      (Wil yb v'.snd.fst v'.snd.snd)) ∧
     (((↑v'.snd.fst : Int) - v'.fst).toNat < ((↑v_333.snd.fst : Int) - v_333.fst).toNat)))
    ((x.fst = x.fst) ∧
    (x.snd = x.snd) ∧
    (True))))))) ∧
 ((lE an la ag got = (0 : Int)) →
 ∀ (b_350 : Bool),
 ∀ (l_351 : Int),
 ∀ (a_352 : Int),
 ∀ (ys_353 : List Msg),
 ∀ (n_354 : Nat),
 ((b_350, l_351) = stk (an, la) got) →
 ((0 : Int) ≤ l_351 ∧ l_351 ≤ (4294967295 : Int)) →
 (ys_353 = tk (an, la) got) →
 (ys_353.length = n_354) →
 (a_352 = ageN ag n_354) →
 (
 ((0 : Int) ≤ la) ∧
 (la ≤ (4294967295 : Int))) ∧
 (
 ((-9223372036854775808 : Int) ≤ ag) ∧
 (ag ≤ (9223372036854775807 : Int))) ∧
 (
 ((-9223372036854775808 : Int) ≤ watch) ∧
 (watch ≤ (9223372036854775807 : Int))) ∧
 (
 ∀ (e_360 : Int),
 (e_360 = fE an la ag watch) →
 (e_360 ≠ (0 : Int)) →
 (
  ((0 : Int) ≤ la) ∧
  (la ≤ (4294967295 : Int))) ∧
 (
  ((-9223372036854775808 : Int) ≤ ag) ∧
  (ag ≤ (9223372036854775807 : Int))) ∧
 (
  ((-9223372036854775808 : Int) ≤ watch) ∧
  (watch ≤ (9223372036854775807 : Int))) ∧
 (
  ∀ (e_363 : Int),
  (e_363 = fE an la ag watch) →
  (e_363 ≠ (0 : Int)) →
  (
  ((0 : Int) ≤ last) ∧
  (last ≤ (4294967295 : Int))) ∧
  ∀ (n_366 : Int),
  ∀ (e_367 : Int),
  ((n_366, e_367) = if last = (4294967295 : Int) then ((0 : Int), (2 : Int)) else (last + (1 : Int), (0 : Int))) →
  (
  ((0 : Int) ≤ last) ∧
  (last ≤ (4294967295 : Int))) ∧
  ∀ (n_369 : Int),
  ∀ (e_370 : Int),
  ((n_369, e_370) = if last = (4294967295 : Int) then ((0 : Int), (2 : Int)) else (last + (1 : Int), (0 : Int))) →
  br (!(b_230 == b_350 && (l_231 == l_351 && (a_232 == a_352 && true))))
  ((true = true) ∧
   (k (AV.bool false) [] []))
  ((eqMs (List.map YMsg.old (List.take n_234 (List.drop (0 : Nat) ys_233))) (List.take n_354 (List.drop (0 : Nat) ys_353))) ∧
   ((List.map YMsg.old (List.take n_234 (List.drop (0 : Nat) ys_233))).length ≤ (1048576 : Nat)) ∧
   br (bif bif bif bif bif bif false then true else !true then true else (0 : Int) != (0 : Int) then true else !false == false then true else e_360 != e_363 then true else n_366 != n_369 then true else e_367 != e_370)
   ((k (AV.bool false) [] []))
   ((
    ∃ (v : Int × Nat × List WB),
    (x.fst = x.fst) ∧
    (x.snd = x.snd) ∧
    ((0 : Nat) = (0 : Nat)) ∧
    (n_234 = v.snd.fst) ∧
    ((0 : Int) = v.fst) ∧
    (List.map YMsg.wild ys_233 = v.snd.snd) ∧
    (
     ((0 : Int) ≤ v.fst) ∧
     (v.fst ≤ (↑v.snd.fst : Int))) ∧
    (Wil yb v.snd.fst v.snd.snd)) ∧
    ∀ (v_372 : Int × Nat × List WB),
    (((0 : Int) ≤ v_372.fst ∧ v_372.fst ≤ (↑v_372.snd.fst : Int)) ∧ Wil yb v_372.snd.fst v_372.snd.snd) →
    ∀ (n374 : Int),
    (n374 = (↑v_372.snd.fst : Int)) →
    ((-9223372036854775808 : Int) ≤ n374 ∧ n374 ≤ (9223372036854775807 : Int)) →
    br (decide (v_372.fst < n374))
    ((
     ∃ (v : Int × Int × Nat × List WB),
     (x.fst = x.fst) ∧
     (x.snd = x.snd) ∧
     ((0 : Nat) = (0 : Nat)) ∧
     (v_372.snd.fst = v.snd.snd.fst) ∧
     (v_372.fst = v.snd.fst) ∧
     ((0 : Int) = v.fst) ∧
     (v_372.snd.snd = v.snd.snd.snd) ∧
     (
      ((0 : Int) ≤ v.fst) ∧
      (v.fst ≤ (↑(v.snd.snd.snd.getD v.snd.fst.toNat (dflt (15 : Nat))).n : Int))) ∧
     (
      ((0 : Int) ≤ v.snd.fst) ∧
      (v.snd.fst < (↑v.snd.snd.fst : Int))) ∧
     (v.snd.fst.toNat * (2000000 : Nat) + v.snd.snd.fst = v_372.fst.toNat * (2000000 : Nat) + v_372.snd.fst) ∧
     (Wil yb v.snd.snd.fst v.snd.snd.snd)) ∧
     ∀ (v_377 : Int × Int × Nat × List WB),
     (((0 : Int) ≤ v_377.fst ∧ v_377.fst ≤ (↑(v_377.snd.snd.snd.getD v_377.snd.fst.toNat (dflt (15 : Nat))).n : Int)) ∧ ((0 : Int) ≤ v_377.snd.fst ∧ v_377.snd.fst < (↑v_377.snd.snd.fst : Int)) ∧ v_377.snd.fst.toNat * (2000000 : Nat) + v_377.snd.snd.fst = v_372.fst.toNat * (2000000 : Nat) + v_372.snd.fst ∧ Wil yb v_377.snd.snd.fst v_377.snd.snd.snd) →
     ((0 : Int) ≤ v_377.snd.fst) ∧
     (v_377.snd.fst < (↑v_377.snd.snd.fst : Int)) ∧
     ((0 : Nat) + v_377.snd.fst.toNat < v_377.snd.snd.snd.length) ∧
     ∀ (n379 : Int),
     (n379 = (↑(v_377.snd.snd.snd.getD ((0 : Nat) + v_377.snd.fst.toNat) (dflt (15 : Nat))).n : Int)) →
     ((-9223372036854775808 : Int) ≤ n379 ∧ n379 ≤ (9223372036854775807 : Int)) →
     br (decide (v_377.fst < n379))
     (((0 : Int) ≤ v_377.snd.fst) ∧
      (v_377.snd.fst < (↑v_377.snd.snd.fst : Int)) ∧
      ((0 : Nat) + v_377.snd.fst.toNat < v_377.snd.snd.snd.length) ∧
      ((0 : Int) ≤ v_377.snd.fst) ∧
      (v_377.snd.fst < (↑v_377.snd.snd.fst : Int)) ∧
      ((0 : Nat) + v_377.snd.fst.toNat < v_377.snd.snd.snd.length) ∧
      ((0 : Int) ≤ v_377.fst) ∧
      (v_377.fst < (↑(v_377.snd.snd.snd.getD ((0 : Nat) + v_377.snd.fst.toNat) (dflt (15 : Nat))).n : Int)) ∧
      ((0 : Int) ≤ v_377.fst) ∧
      (v_377.fst < (↑(v_377.snd.snd.snd.getD ((0 : Nat) + v_377.snd.fst.toNat) (dflt (15 : Nat))).n : Int)) ∧
      (yb ≤ (v_377.snd.snd.snd.getD ((0 : Nat) + v_377.snd.fst.toNat) (dflt (15 : Nat))).nb) ∧
      ∀ (n382 : Int),
      (n382 = IntKind.i64.wrap (v_377.fst + (1 : Int))) →
      ((-9223372036854775808 : Int) ≤ n382 ∧ n382 ≤ (9223372036854775807 : Int)) →
      ∃ (v' : Int × Int × Nat × List WB),
      (x.fst = x.fst) ∧
      (x.snd = x.snd) ∧
      ((0 : Nat) = (0 : Nat)) ∧
      (v_377.snd.snd.fst = v'.snd.snd.fst) ∧
      (v_377.snd.fst = v'.snd.fst) ∧
      (n382 = v'.fst) ∧
      (v_377.snd.snd.snd = v'.snd.snd.snd) ∧
      (
      (
       ((0 : Int) ≤ v'.fst) ∧
       (v'.fst ≤ (↑(v'.snd.snd.snd.getD v'.snd.fst.toNat (dflt (15 : Nat))).n : Int))) ∧
      (
       ((0 : Int) ≤ v'.snd.fst) ∧
       (v'.snd.fst < (↑v'.snd.snd.fst : Int))) ∧
      (v'.snd.fst.toNat * (2000000 : Nat) + v'.snd.snd.fst = v_372.fst.toNat * (2000000 : Nat) + v_372.snd.fst) ∧
      (Wil yb v'.snd.snd.fst v'.snd.snd.snd)) ∧
      (((↑(v'.snd.snd.snd.getD v'.snd.fst.toNat (dflt (15 : Nat))).n : Int) - v'.fst).toNat < ((↑(v_377.snd.snd.snd.getD v_377.snd.fst.toNat (dflt (15 : Nat))).n : Int) - v_377.fst).toNat))
     (∀ (n385 : Int),
      (n385 = IntKind.i64.wrap (v_377.snd.fst + (1 : Int))) →
      ((-9223372036854775808 : Int) ≤ n385 ∧ n385 ≤ (9223372036854775807 : Int)) →
      ∃ (v' : Int × Nat × List WB),
      (x.fst = x.fst) ∧
      (x.snd = x.snd) ∧
      ((0 : Nat) = (0 : Nat)) ∧
      (v_377.snd.snd.fst = v'.snd.fst) ∧
      (n385 = v'.fst) ∧
      (v_377.snd.snd.snd = v'.snd.snd) ∧
      (
      (
       ((0 : Int) ≤ v'.fst) ∧
       (v'.fst ≤ (↑v'.snd.fst : Int))) ∧
      (Wil yb v'.snd.fst v'.snd.snd)) ∧
      (((↑v'.snd.fst : Int) - v'.fst).toNat < ((↑v_372.snd.fst : Int) - v_372.fst).toNat)))
    ((x.fst = x.fst) ∧
     (x.snd = x.snd) ∧
     (True))))) ∧
 ((fE an la ag watch = (0 : Int)) →
 ∀ (b_389 : Bool),
 (b_389 = (an && decide (ag < watch))) →
 (
  ((0 : Int) ≤ last) ∧
  (last ≤ (4294967295 : Int))) ∧
 ∀ (n_391 : Int),
 ∀ (e_392 : Int),
 ((n_391, e_392) = if last = (4294967295 : Int) then ((0 : Int), (2 : Int)) else (last + (1 : Int), (0 : Int))) →
 (
  ((0 : Int) ≤ last) ∧
  (last ≤ (4294967295 : Int))) ∧
 ∀ (n_394 : Int),
 ∀ (e_395 : Int),
 ((n_394, e_395) = if last = (4294967295 : Int) then ((0 : Int), (2 : Int)) else (last + (1 : Int), (0 : Int))) →
 br (!(b_230 == b_350 && (l_231 == l_351 && (a_232 == a_352 && true))))
  ((true = true) ∧
  (k (AV.bool false) [] []))
  ((eqMs (List.map YMsg.old (List.take n_234 (List.drop (0 : Nat) ys_233))) (List.take n_354 (List.drop (0 : Nat) ys_353))) ∧
  ((List.map YMsg.old (List.take n_234 (List.drop (0 : Nat) ys_233))).length ≤ (1048576 : Nat)) ∧
  br (bif bif bif bif bif bif false then true else !true then true else (0 : Int) != (0 : Int) then true else !false == b_389 then true else e_360 != (0 : Int) then true else n_391 != n_394 then true else e_392 != e_395)
   ((k (AV.bool false) [] []))
   ((
    ∃ (v : Int × Nat × List WB),
    (x.fst = x.fst) ∧
    (x.snd = x.snd) ∧
    ((0 : Nat) = (0 : Nat)) ∧
    (n_234 = v.snd.fst) ∧
    ((0 : Int) = v.fst) ∧
    (List.map YMsg.wild ys_233 = v.snd.snd) ∧
    (
    ((0 : Int) ≤ v.fst) ∧
    (v.fst ≤ (↑v.snd.fst : Int))) ∧
    (Wil yb v.snd.fst v.snd.snd)) ∧
   ∀ (v_397 : Int × Nat × List WB),
   (((0 : Int) ≤ v_397.fst ∧ v_397.fst ≤ (↑v_397.snd.fst : Int)) ∧ Wil yb v_397.snd.fst v_397.snd.snd) →
   ∀ (n399 : Int),
   (n399 = (↑v_397.snd.fst : Int)) →
   ((-9223372036854775808 : Int) ≤ n399 ∧ n399 ≤ (9223372036854775807 : Int)) →
   br (decide (v_397.fst < n399))
    ((
     ∃ (v : Int × Int × Nat × List WB),
     (x.fst = x.fst) ∧
     (x.snd = x.snd) ∧
     ((0 : Nat) = (0 : Nat)) ∧
     (v_397.snd.fst = v.snd.snd.fst) ∧
     (v_397.fst = v.snd.fst) ∧
     ((0 : Int) = v.fst) ∧
     (v_397.snd.snd = v.snd.snd.snd) ∧
     (
     ((0 : Int) ≤ v.fst) ∧
     (v.fst ≤ (↑(v.snd.snd.snd.getD v.snd.fst.toNat (dflt (15 : Nat))).n : Int))) ∧
     (
     ((0 : Int) ≤ v.snd.fst) ∧
     (v.snd.fst < (↑v.snd.snd.fst : Int))) ∧
     (v.snd.fst.toNat * (2000000 : Nat) + v.snd.snd.fst = v_397.fst.toNat * (2000000 : Nat) + v_397.snd.fst) ∧
     (Wil yb v.snd.snd.fst v.snd.snd.snd)) ∧
    ∀ (v_402 : Int × Int × Nat × List WB),
    (((0 : Int) ≤ v_402.fst ∧ v_402.fst ≤ (↑(v_402.snd.snd.snd.getD v_402.snd.fst.toNat (dflt (15 : Nat))).n : Int)) ∧ ((0 : Int) ≤ v_402.snd.fst ∧ v_402.snd.fst < (↑v_402.snd.snd.fst : Int)) ∧ v_402.snd.fst.toNat * (2000000 : Nat) + v_402.snd.snd.fst = v_397.fst.toNat * (2000000 : Nat) + v_397.snd.fst ∧ Wil yb v_402.snd.snd.fst v_402.snd.snd.snd) →
    ((0 : Int) ≤ v_402.snd.fst) ∧
    (v_402.snd.fst < (↑v_402.snd.snd.fst : Int)) ∧
    ((0 : Nat) + v_402.snd.fst.toNat < v_402.snd.snd.snd.length) ∧
    ∀ (n404 : Int),
    (n404 = (↑(v_402.snd.snd.snd.getD ((0 : Nat) + v_402.snd.fst.toNat) (dflt (15 : Nat))).n : Int)) →
    ((-9223372036854775808 : Int) ≤ n404 ∧ n404 ≤ (9223372036854775807 : Int)) →
    br (decide (v_402.fst < n404))
     (((0 : Int) ≤ v_402.snd.fst) ∧
     (v_402.snd.fst < (↑v_402.snd.snd.fst : Int)) ∧
     ((0 : Nat) + v_402.snd.fst.toNat < v_402.snd.snd.snd.length) ∧
     ((0 : Int) ≤ v_402.snd.fst) ∧
     (v_402.snd.fst < (↑v_402.snd.snd.fst : Int)) ∧
     ((0 : Nat) + v_402.snd.fst.toNat < v_402.snd.snd.snd.length) ∧
     ((0 : Int) ≤ v_402.fst) ∧
     (v_402.fst < (↑(v_402.snd.snd.snd.getD ((0 : Nat) + v_402.snd.fst.toNat) (dflt (15 : Nat))).n : Int)) ∧
     ((0 : Int) ≤ v_402.fst) ∧
     (v_402.fst < (↑(v_402.snd.snd.snd.getD ((0 : Nat) + v_402.snd.fst.toNat) (dflt (15 : Nat))).n : Int)) ∧
     (yb ≤ (v_402.snd.snd.snd.getD ((0 : Nat) + v_402.snd.fst.toNat) (dflt (15 : Nat))).nb) ∧
     ∀ (n407 : Int),
     (n407 = IntKind.i64.wrap (v_402.fst + (1 : Int))) →
     ((-9223372036854775808 : Int) ≤ n407 ∧ n407 ≤ (9223372036854775807 : Int)) →
     ∃ (v' : Int × Int × Nat × List WB),
     (x.fst = x.fst) ∧
     (x.snd = x.snd) ∧
     ((0 : Nat) = (0 : Nat)) ∧
     (v_402.snd.snd.fst = v'.snd.snd.fst) ∧
     (v_402.snd.fst = v'.snd.fst) ∧
     (n407 = v'.fst) ∧
     (v_402.snd.snd.snd = v'.snd.snd.snd) ∧
     (
      (
      ((0 : Int) ≤ v'.fst) ∧
      (v'.fst ≤ (↑(v'.snd.snd.snd.getD v'.snd.fst.toNat (dflt (15 : Nat))).n : Int))) ∧
      (
      ((0 : Int) ≤ v'.snd.fst) ∧
      (v'.snd.fst < (↑v'.snd.snd.fst : Int))) ∧
      (v'.snd.fst.toNat * (2000000 : Nat) + v'.snd.snd.fst = v_397.fst.toNat * (2000000 : Nat) + v_397.snd.fst) ∧
      (Wil yb v'.snd.snd.fst v'.snd.snd.snd)) ∧
     (((↑(v'.snd.snd.snd.getD v'.snd.fst.toNat (dflt (15 : Nat))).n : Int) - v'.fst).toNat < ((↑(v_402.snd.snd.snd.getD v_402.snd.fst.toNat (dflt (15 : Nat))).n : Int) - v_402.fst).toNat))
     (∀ (n410 : Int),
     (n410 = IntKind.i64.wrap (v_402.snd.fst + (1 : Int))) →
     ((-9223372036854775808 : Int) ≤ n410 ∧ n410 ≤ (9223372036854775807 : Int)) →
     ∃ (v' : Int × Nat × List WB),
     (x.fst = x.fst) ∧
     (x.snd = x.snd) ∧
     ((0 : Nat) = (0 : Nat)) ∧
     (v_402.snd.snd.fst = v'.snd.fst) ∧
     (n410 = v'.fst) ∧
     (v_402.snd.snd.snd = v'.snd.snd) ∧
     (
      (
      ((0 : Int) ≤ v'.fst) ∧
      (v'.fst ≤ (↑v'.snd.fst : Int))) ∧
      (Wil yb v'.snd.fst v'.snd.snd)) ∧
     (((↑v'.snd.fst : Int) - v'.fst).toNat < ((↑v_397.snd.fst : Int) - v_397.fst).toNat)))
    ((x.fst = x.fst) ∧
    (x.snd = x.snd) ∧
    (True)))))) ∧
 ((fE an la ag watch = (0 : Int)) →
 ∀ (b_414 : Bool),
 (b_414 = (an && decide (ag < watch))) →
 (
 ((0 : Int) ≤ la) ∧
 (la ≤ (4294967295 : Int))) ∧
 (
 ((-9223372036854775808 : Int) ≤ ag) ∧
 (ag ≤ (9223372036854775807 : Int))) ∧
 (
 ((-9223372036854775808 : Int) ≤ watch) ∧
 (watch ≤ (9223372036854775807 : Int))) ∧
 (
 ∀ (e_416 : Int),
 (e_416 = fE an la ag watch) →
 (e_416 ≠ (0 : Int)) →
 (
  ((0 : Int) ≤ last) ∧
  (last ≤ (4294967295 : Int))) ∧
 ∀ (n_419 : Int),
 ∀ (e_420 : Int),
 ((n_419, e_420) = if last = (4294967295 : Int) then ((0 : Int), (2 : Int)) else (last + (1 : Int), (0 : Int))) →
 (
  ((0 : Int) ≤ last) ∧
  (last ≤ (4294967295 : Int))) ∧
 ∀ (n_422 : Int),
 ∀ (e_423 : Int),
 ((n_422, e_423) = if last = (4294967295 : Int) then ((0 : Int), (2 : Int)) else (last + (1 : Int), (0 : Int))) →
 br (!(b_230 == b_350 && (l_231 == l_351 && (a_232 == a_352 && true))))
  ((true = true) ∧
  (k (AV.bool false) [] []))
  ((eqMs (List.map YMsg.old (List.take n_234 (List.drop (0 : Nat) ys_233))) (List.take n_354 (List.drop (0 : Nat) ys_353))) ∧
  ((List.map YMsg.old (List.take n_234 (List.drop (0 : Nat) ys_233))).length ≤ (1048576 : Nat)) ∧
  br (bif bif bif bif bif bif false then true else !true then true else (0 : Int) != (0 : Int) then true else !b_414 == false then true else (0 : Int) != e_416 then true else n_419 != n_422 then true else e_420 != e_423)
   ((k (AV.bool false) [] []))
   ((
    ∃ (v : Int × Nat × List WB),
    (x.fst = x.fst) ∧
    (x.snd = x.snd) ∧
    ((0 : Nat) = (0 : Nat)) ∧
    (n_234 = v.snd.fst) ∧
    ((0 : Int) = v.fst) ∧
    (List.map YMsg.wild ys_233 = v.snd.snd) ∧
    (
    ((0 : Int) ≤ v.fst) ∧
    (v.fst ≤ (↑v.snd.fst : Int))) ∧
    (Wil yb v.snd.fst v.snd.snd)) ∧
   ∀ (v_425 : Int × Nat × List WB),
   (((0 : Int) ≤ v_425.fst ∧ v_425.fst ≤ (↑v_425.snd.fst : Int)) ∧ Wil yb v_425.snd.fst v_425.snd.snd) →
   ∀ (n427 : Int),
   (n427 = (↑v_425.snd.fst : Int)) →
   ((-9223372036854775808 : Int) ≤ n427 ∧ n427 ≤ (9223372036854775807 : Int)) →
   br (decide (v_425.fst < n427))
    ((
     ∃ (v : Int × Int × Nat × List WB),
     (x.fst = x.fst) ∧
     (x.snd = x.snd) ∧
     ((0 : Nat) = (0 : Nat)) ∧
     (v_425.snd.fst = v.snd.snd.fst) ∧
     (v_425.fst = v.snd.fst) ∧
     ((0 : Int) = v.fst) ∧
     (v_425.snd.snd = v.snd.snd.snd) ∧
     (
     ((0 : Int) ≤ v.fst) ∧
     (v.fst ≤ (↑(v.snd.snd.snd.getD v.snd.fst.toNat (dflt (15 : Nat))).n : Int))) ∧
     (
     ((0 : Int) ≤ v.snd.fst) ∧
     (v.snd.fst < (↑v.snd.snd.fst : Int))) ∧
     (v.snd.fst.toNat * (2000000 : Nat) + v.snd.snd.fst = v_425.fst.toNat * (2000000 : Nat) + v_425.snd.fst) ∧
     (Wil yb v.snd.snd.fst v.snd.snd.snd)) ∧
    ∀ (v_430 : Int × Int × Nat × List WB),
    (((0 : Int) ≤ v_430.fst ∧ v_430.fst ≤ (↑(v_430.snd.snd.snd.getD v_430.snd.fst.toNat (dflt (15 : Nat))).n : Int)) ∧ ((0 : Int) ≤ v_430.snd.fst ∧ v_430.snd.fst < (↑v_430.snd.snd.fst : Int)) ∧ v_430.snd.fst.toNat * (2000000 : Nat) + v_430.snd.snd.fst = v_425.fst.toNat * (2000000 : Nat) + v_425.snd.fst ∧ Wil yb v_430.snd.snd.fst v_430.snd.snd.snd) →
    ((0 : Int) ≤ v_430.snd.fst) ∧
    (v_430.snd.fst < (↑v_430.snd.snd.fst : Int)) ∧
    ((0 : Nat) + v_430.snd.fst.toNat < v_430.snd.snd.snd.length) ∧
    ∀ (n432 : Int),
    (n432 = (↑(v_430.snd.snd.snd.getD ((0 : Nat) + v_430.snd.fst.toNat) (dflt (15 : Nat))).n : Int)) →
    ((-9223372036854775808 : Int) ≤ n432 ∧ n432 ≤ (9223372036854775807 : Int)) →
    br (decide (v_430.fst < n432))
     (((0 : Int) ≤ v_430.snd.fst) ∧
     (v_430.snd.fst < (↑v_430.snd.snd.fst : Int)) ∧
     ((0 : Nat) + v_430.snd.fst.toNat < v_430.snd.snd.snd.length) ∧
     ((0 : Int) ≤ v_430.snd.fst) ∧
     (v_430.snd.fst < (↑v_430.snd.snd.fst : Int)) ∧
     ((0 : Nat) + v_430.snd.fst.toNat < v_430.snd.snd.snd.length) ∧
     ((0 : Int) ≤ v_430.fst) ∧
     (v_430.fst < (↑(v_430.snd.snd.snd.getD ((0 : Nat) + v_430.snd.fst.toNat) (dflt (15 : Nat))).n : Int)) ∧
     ((0 : Int) ≤ v_430.fst) ∧
     (v_430.fst < (↑(v_430.snd.snd.snd.getD ((0 : Nat) + v_430.snd.fst.toNat) (dflt (15 : Nat))).n : Int)) ∧
     (yb ≤ (v_430.snd.snd.snd.getD ((0 : Nat) + v_430.snd.fst.toNat) (dflt (15 : Nat))).nb) ∧
     ∀ (n435 : Int),
     (n435 = IntKind.i64.wrap (v_430.fst + (1 : Int))) →
     ((-9223372036854775808 : Int) ≤ n435 ∧ n435 ≤ (9223372036854775807 : Int)) →
     ∃ (v' : Int × Int × Nat × List WB),
     (x.fst = x.fst) ∧
     (x.snd = x.snd) ∧
     ((0 : Nat) = (0 : Nat)) ∧
     (v_430.snd.snd.fst = v'.snd.snd.fst) ∧
     (v_430.snd.fst = v'.snd.fst) ∧
     (n435 = v'.fst) ∧
     (v_430.snd.snd.snd = v'.snd.snd.snd) ∧
     (
      (
      ((0 : Int) ≤ v'.fst) ∧
      (v'.fst ≤ (↑(v'.snd.snd.snd.getD v'.snd.fst.toNat (dflt (15 : Nat))).n : Int))) ∧
      (
      ((0 : Int) ≤ v'.snd.fst) ∧
      (v'.snd.fst < (↑v'.snd.snd.fst : Int))) ∧
      (v'.snd.fst.toNat * (2000000 : Nat) + v'.snd.snd.fst = v_425.fst.toNat * (2000000 : Nat) + v_425.snd.fst) ∧
      (Wil yb v'.snd.snd.fst v'.snd.snd.snd)) ∧
     (((↑(v'.snd.snd.snd.getD v'.snd.fst.toNat (dflt (15 : Nat))).n : Int) - v'.fst).toNat < ((↑(v_430.snd.snd.snd.getD v_430.snd.fst.toNat (dflt (15 : Nat))).n : Int) - v_430.fst).toNat))
     (∀ (n438 : Int),
     (n438 = IntKind.i64.wrap (v_430.snd.fst + (1 : Int))) →
     ((-9223372036854775808 : Int) ≤ n438 ∧ n438 ≤ (9223372036854775807 : Int)) →
     ∃ (v' : Int × Nat × List WB),
     (x.fst = x.fst) ∧
     (x.snd = x.snd) ∧
     ((0 : Nat) = (0 : Nat)) ∧
     (v_430.snd.snd.fst = v'.snd.fst) ∧
     (n438 = v'.fst) ∧
     (v_430.snd.snd.snd = v'.snd.snd) ∧
     (
      (
      ((0 : Int) ≤ v'.fst) ∧
      (v'.fst ≤ (↑v'.snd.fst : Int))) ∧
      (Wil yb v'.snd.fst v'.snd.snd)) ∧
     (((↑v'.snd.fst : Int) - v'.fst).toNat < ((↑v_425.snd.fst : Int) - v_425.fst).toNat)))
    ((x.fst = x.fst) ∧
    (x.snd = x.snd) ∧
    (True))))) ∧
 ((fE an la ag watch = (0 : Int)) →
 ∀ (b_442 : Bool),
 (b_442 = (an && decide (ag < watch))) →
 (
 ((0 : Int) ≤ last) ∧
 (last ≤ (4294967295 : Int))) ∧
 ∀ (n_444 : Int),
 ∀ (e_445 : Int),
 ((n_444, e_445) = if last = (4294967295 : Int) then ((0 : Int), (2 : Int)) else (last + (1 : Int), (0 : Int))) →
 (
 ((0 : Int) ≤ last) ∧
 (last ≤ (4294967295 : Int))) ∧
 ∀ (n_447 : Int),
 ∀ (e_448 : Int),
 ((n_447, e_448) = if last = (4294967295 : Int) then ((0 : Int), (2 : Int)) else (last + (1 : Int), (0 : Int))) →
 br (!(b_230 == b_350 && (l_231 == l_351 && (a_232 == a_352 && true))))
 ((true = true) ∧
  (k (AV.bool false) [] []))
 ((eqMs (List.map YMsg.old (List.take n_234 (List.drop (0 : Nat) ys_233))) (List.take n_354 (List.drop (0 : Nat) ys_353))) ∧
  ((List.map YMsg.old (List.take n_234 (List.drop (0 : Nat) ys_233))).length ≤ (1048576 : Nat)) ∧
  br (bif bif bif bif bif bif false then true else !true then true else (0 : Int) != (0 : Int) then true else !b_414 == b_442 then true else (0 : Int) != (0 : Int) then true else n_444 != n_447 then true else e_445 != e_448)
  ((k (AV.bool false) [] []))
  ((
   ∃ (v : Int × Nat × List WB),
   (x.fst = x.fst) ∧
   (x.snd = x.snd) ∧
   ((0 : Nat) = (0 : Nat)) ∧
   (n_234 = v.snd.fst) ∧
   ((0 : Int) = v.fst) ∧
   (List.map YMsg.wild ys_233 = v.snd.snd) ∧
   (
    ((0 : Int) ≤ v.fst) ∧
    (v.fst ≤ (↑v.snd.fst : Int))) ∧
   (Wil yb v.snd.fst v.snd.snd)) ∧
   ∀ (v_450 : Int × Nat × List WB),
   (((0 : Int) ≤ v_450.fst ∧ v_450.fst ≤ (↑v_450.snd.fst : Int)) ∧ Wil yb v_450.snd.fst v_450.snd.snd) →
   ∀ (n452 : Int),
   (n452 = (↑v_450.snd.fst : Int)) →
   ((-9223372036854775808 : Int) ≤ n452 ∧ n452 ≤ (9223372036854775807 : Int)) →
   br (decide (v_450.fst < n452))
   ((
    ∃ (v : Int × Int × Nat × List WB),
    (x.fst = x.fst) ∧
    (x.snd = x.snd) ∧
    ((0 : Nat) = (0 : Nat)) ∧
    (v_450.snd.fst = v.snd.snd.fst) ∧
    (v_450.fst = v.snd.fst) ∧
    ((0 : Int) = v.fst) ∧
    (v_450.snd.snd = v.snd.snd.snd) ∧
    (
     ((0 : Int) ≤ v.fst) ∧
     (v.fst ≤ (↑(v.snd.snd.snd.getD v.snd.fst.toNat (dflt (15 : Nat))).n : Int))) ∧
    (
     ((0 : Int) ≤ v.snd.fst) ∧
     (v.snd.fst < (↑v.snd.snd.fst : Int))) ∧
    (v.snd.fst.toNat * (2000000 : Nat) + v.snd.snd.fst = v_450.fst.toNat * (2000000 : Nat) + v_450.snd.fst) ∧
    (Wil yb v.snd.snd.fst v.snd.snd.snd)) ∧
    ∀ (v_455 : Int × Int × Nat × List WB),
    (((0 : Int) ≤ v_455.fst ∧ v_455.fst ≤ (↑(v_455.snd.snd.snd.getD v_455.snd.fst.toNat (dflt (15 : Nat))).n : Int)) ∧ ((0 : Int) ≤ v_455.snd.fst ∧ v_455.snd.fst < (↑v_455.snd.snd.fst : Int)) ∧ v_455.snd.fst.toNat * (2000000 : Nat) + v_455.snd.snd.fst = v_450.fst.toNat * (2000000 : Nat) + v_450.snd.fst ∧ Wil yb v_455.snd.snd.fst v_455.snd.snd.snd) →
    ((0 : Int) ≤ v_455.snd.fst) ∧
    (v_455.snd.fst < (↑v_455.snd.snd.fst : Int)) ∧
    ((0 : Nat) + v_455.snd.fst.toNat < v_455.snd.snd.snd.length) ∧
    ∀ (n457 : Int),
    (n457 = (↑(v_455.snd.snd.snd.getD ((0 : Nat) + v_455.snd.fst.toNat) (dflt (15 : Nat))).n : Int)) →
    ((-9223372036854775808 : Int) ≤ n457 ∧ n457 ≤ (9223372036854775807 : Int)) →
    br (decide (v_455.fst < n457))
    (((0 : Int) ≤ v_455.snd.fst) ∧
     (v_455.snd.fst < (↑v_455.snd.snd.fst : Int)) ∧
     ((0 : Nat) + v_455.snd.fst.toNat < v_455.snd.snd.snd.length) ∧
     ((0 : Int) ≤ v_455.snd.fst) ∧
     (v_455.snd.fst < (↑v_455.snd.snd.fst : Int)) ∧
     ((0 : Nat) + v_455.snd.fst.toNat < v_455.snd.snd.snd.length) ∧
     ((0 : Int) ≤ v_455.fst) ∧
     (v_455.fst < (↑(v_455.snd.snd.snd.getD ((0 : Nat) + v_455.snd.fst.toNat) (dflt (15 : Nat))).n : Int)) ∧
     ((0 : Int) ≤ v_455.fst) ∧
     (v_455.fst < (↑(v_455.snd.snd.snd.getD ((0 : Nat) + v_455.snd.fst.toNat) (dflt (15 : Nat))).n : Int)) ∧
     (yb ≤ (v_455.snd.snd.snd.getD ((0 : Nat) + v_455.snd.fst.toNat) (dflt (15 : Nat))).nb) ∧
     ∀ (n460 : Int),
     (n460 = IntKind.i64.wrap (v_455.fst + (1 : Int))) →
     ((-9223372036854775808 : Int) ≤ n460 ∧ n460 ≤ (9223372036854775807 : Int)) →
     ∃ (v' : Int × Int × Nat × List WB),
     (x.fst = x.fst) ∧
     (x.snd = x.snd) ∧
     ((0 : Nat) = (0 : Nat)) ∧
     (v_455.snd.snd.fst = v'.snd.snd.fst) ∧
     (v_455.snd.fst = v'.snd.fst) ∧
     (n460 = v'.fst) ∧
     (v_455.snd.snd.snd = v'.snd.snd.snd) ∧
     (
     (
      ((0 : Int) ≤ v'.fst) ∧
      (v'.fst ≤ (↑(v'.snd.snd.snd.getD v'.snd.fst.toNat (dflt (15 : Nat))).n : Int))) ∧
     (
      ((0 : Int) ≤ v'.snd.fst) ∧
      (v'.snd.fst < (↑v'.snd.snd.fst : Int))) ∧
     (v'.snd.fst.toNat * (2000000 : Nat) + v'.snd.snd.fst = v_450.fst.toNat * (2000000 : Nat) + v_450.snd.fst) ∧
     (Wil yb v'.snd.snd.fst v'.snd.snd.snd)) ∧
     (((↑(v'.snd.snd.snd.getD v'.snd.fst.toNat (dflt (15 : Nat))).n : Int) - v'.fst).toNat < ((↑(v_455.snd.snd.snd.getD v_455.snd.fst.toNat (dflt (15 : Nat))).n : Int) - v_455.fst).toNat))
    (∀ (n463 : Int),
     (n463 = IntKind.i64.wrap (v_455.snd.fst + (1 : Int))) →
     ((-9223372036854775808 : Int) ≤ n463 ∧ n463 ≤ (9223372036854775807 : Int)) →
     ∃ (v' : Int × Nat × List WB),
     (x.fst = x.fst) ∧
     (x.snd = x.snd) ∧
     ((0 : Nat) = (0 : Nat)) ∧
     (v_455.snd.snd.fst = v'.snd.fst) ∧
     (n463 = v'.fst) ∧
     (v_455.snd.snd.snd = v'.snd.snd) ∧
     (
     (
      ((0 : Int) ≤ v'.fst) ∧
      (v'.fst ≤ (↑v'.snd.fst : Int))) ∧
     (Wil yb v'.snd.fst v'.snd.snd)) ∧
     (((↑v'.snd.fst : Int) - v'.fst).toNat < ((↑v_450.snd.fst : Int) - v_450.fst).toNat)))
   ((x.fst = x.fst) ∧
    (x.snd = x.snd) ∧
    (True)))))))) := by
 refine ⟨by exact ⟨by assumption, by assumption⟩, ?_⟩
 refine ⟨by exact ⟨by assumption, by assumption⟩, ?_⟩
 refine ⟨?_, ?_⟩
 ·
  intro e_1
  intro h1
  intro h2
  refine ⟨by exact ⟨by assumption, by assumption⟩, ?_⟩
  refine ⟨by exact ⟨by assumption, by assumption⟩, ?_⟩
  refine ⟨by assumption, ?_⟩
  refine ⟨?_, ?_⟩
  ·
   intro e_4
   intro h3
   intro h4
   refine ⟨by exact ⟨by assumption, by assumption⟩, ?_⟩
   refine ⟨by exact ⟨by assumption, by assumption⟩, ?_⟩
   refine ⟨by exact ⟨by assumption, by assumption⟩, ?_⟩
   refine ⟨?_, ?_⟩
   ·
    intro e_7
    intro h5
    intro h6
    refine ⟨by exact ⟨by assumption, by assumption⟩, ?_⟩
    refine ⟨by exact ⟨by assumption, by assumption⟩, ?_⟩
    refine ⟨by exact ⟨by assumption, by assumption⟩, ?_⟩
    refine ⟨?_, ?_⟩
    ·
     intro e_10
     intro h7
     intro h8
     refine ⟨by exact ⟨by assumption, by assumption⟩, ?_⟩
     intro n_13
     intro e_14
     intro h9
     refine ⟨by exact ⟨by assumption, by assumption⟩, ?_⟩
     intro n_16
     intro e_17
     intro h10
     have h11 : eqMs [] [] := by
      exact ⟨rfl⟩
     refine ⟨h11, ?_⟩
     refine ⟨by first | omega | (dsimp only; omega), ?_⟩
     refine br_intro (fun c12 => ?_) (fun c12 => ?_)
     ·
      simp at c12
      exfalso
      have Ph9 := Prod.mk.inj (h9.trans h10.symm)
      first | omega | (simp_all; done) | (simp_all; omega)
     ·
      simp at c12
      refine ⟨?_, ?_⟩
      ·
       refine ⟨((0 : Int), (0 : Nat), []), ?_⟩
       refine ⟨by first | with_reducible rfl | rfl, ?_⟩
       refine ⟨by first | with_reducible rfl | rfl, ?_⟩
       refine ⟨by first | with_reducible rfl | rfl, ?_⟩
       refine ⟨by first | with_reducible rfl | rfl, ?_⟩
       refine ⟨by first | with_reducible rfl | rfl, ?_⟩
       refine ⟨by first | with_reducible rfl | rfl, ?_⟩
       refine ⟨by first | omega | (dsimp only; omega), ?_⟩
       exact ⟨rfl, fun j hj => absurd hj (Nat.not_lt_zero j), Nat.zero_le _⟩
      intro v_19
      intro h13
      intro n21
      intro q21
      intro ⟨l21, u21⟩
      refine brd (fun c14 => ?_) (fun c14 => ?_)
      ·
       refine ⟨?_, ?_⟩
       ·
        refine ⟨((0 : Int), v_19.fst, v_19.snd.fst, v_19.snd.snd), ?_⟩
        refine ⟨by first | with_reducible rfl | rfl, ?_⟩
        refine ⟨by first | with_reducible rfl | rfl, ?_⟩
        refine ⟨by first | with_reducible rfl | rfl, ?_⟩
        refine ⟨by first | with_reducible rfl | rfl, ?_⟩
        refine ⟨by first | with_reducible rfl | rfl, ?_⟩
        refine ⟨by first | with_reducible rfl | rfl, ?_⟩
        refine ⟨by first | with_reducible rfl | rfl, ?_⟩
        refine ⟨by first | omega | (dsimp only; omega), ?_⟩
        refine ⟨by first | omega | (dsimp only; omega), ?_⟩
        refine ⟨by first | with_reducible rfl | rfl, ?_⟩
        exact h13.2
       intro v_24
       intro h15
       refine ⟨by first | omega | (dsimp only; omega), ?_⟩
       refine ⟨by first | omega | (dsimp only; omega), ?_⟩
       have h16 : (0 : Nat) + v_24.snd.fst.toNat < v_24.snd.snd.snd.length := by
        have := h15.2.2.2.c1; omega
       refine ⟨h16, ?_⟩
       intro n26
       intro q26
       intro ⟨l26, u26⟩
       refine brd (fun c17 => ?_) (fun c17 => ?_)
       ·
        refine ⟨by first | omega | (dsimp only; omega), ?_⟩
        refine ⟨by first | omega | (dsimp only; omega), ?_⟩
        refine ⟨by assumption, ?_⟩
        refine ⟨by first | omega | (dsimp only; omega), ?_⟩
        refine ⟨by first | omega | (dsimp only; omega), ?_⟩
        refine ⟨by assumption, ?_⟩
        refine ⟨by first | omega | (dsimp only; omega), ?_⟩
        refine ⟨by first | omega | (dsimp only; omega), ?_⟩
        refine ⟨by first | omega | (dsimp only; omega), ?_⟩
        refine ⟨by first | omega | (dsimp only; omega), ?_⟩
        have h18 : yb ≤ (v_24.snd.snd.snd.getD ((0 : Nat) + v_24.snd.fst.toNat) (dflt (15 : Nat))).nb := by
         rw [Nat.zero_add]; exact h15.2.2.2.c2 _ (by omega)
        refine ⟨h18, ?_⟩
        intro n29
        intro q29
        first | (rw [wrI64] at q29; rotate_left 1; · omega) | rw [IntKind.wrap_i64] at q29
        intro ⟨l29, u29⟩
        refine ⟨(n29, v_24.snd.fst, v_24.snd.snd.fst, v_24.snd.snd.snd), ?_⟩
        refine ⟨by first | with_reducible rfl | rfl, ?_⟩
        refine ⟨by first | with_reducible rfl | rfl, ?_⟩
        refine ⟨by first | with_reducible rfl | rfl, ?_⟩
        refine ⟨by first | with_reducible rfl | rfl, ?_⟩
        refine ⟨by first | with_reducible rfl | rfl, ?_⟩
        refine ⟨by first | with_reducible rfl | rfl, ?_⟩
        refine ⟨by first | with_reducible rfl | rfl, ?_⟩
        refine ⟨?_, ?_⟩
        ·
         refine ⟨?_, ?_⟩
         ·
          refine ⟨by show (0 : Int) ≤ n29; omega, ?_⟩
          show n29 ≤ (↑(v_24.snd.snd.snd.getD v_24.snd.fst.toNat (dflt (15 : Nat))).n : Int); rw [Nat.zero_add] at q26; omega
         refine ⟨by first | omega | (dsimp only; omega), ?_⟩
         refine ⟨by show v_24.snd.fst.toNat * (2000000 : Nat) + v_24.snd.snd.fst = v_19.fst.toNat * (2000000 : Nat) + v_19.snd.fst; omega, ?_⟩
         exact h15.2.2.2
        show ((↑(v_24.snd.snd.snd.getD v_24.snd.fst.toNat (dflt (15 : Nat))).n : Int) - n29).toNat < ((↑(v_24.snd.snd.snd.getD v_24.snd.fst.toNat (dflt (15 : Nat))).n : Int) - v_24.fst).toNat; rw [Nat.zero_add] at q26; omega
       ·
        intro n32
        intro q32
        first | (rw [wrI64] at q32; rotate_left 1; · omega) | rw [IntKind.wrap_i64] at q32
        intro ⟨l32, u32⟩
        refine ⟨(n32, v_24.snd.snd.fst, v_24.snd.snd.snd), ?_⟩
        refine ⟨by first | with_reducible rfl | rfl, ?_⟩
        refine ⟨by first | with_reducible rfl | rfl, ?_⟩
        refine ⟨by first | with_reducible rfl | rfl, ?_⟩
        refine ⟨by first | with_reducible rfl | rfl, ?_⟩
        refine ⟨by first | with_reducible rfl | rfl, ?_⟩
        refine ⟨by first | with_reducible rfl | rfl, ?_⟩
        refine ⟨?_, ?_⟩
        ·
         refine ⟨by first | omega | (dsimp only; omega), ?_⟩
         exact h15.2.2.2
        have := h15.2.2.2.c3; have := h13.2.c3; show ((↑v_24.snd.snd.fst : Int) - n32).toNat < ((↑v_19.snd.fst : Int) - v_19.fst).toNat; omega
      ·
       refine ⟨by with_reducible rfl, ?_⟩
       refine ⟨by with_reducible rfl, ?_⟩
       exact by decide
    intro h19
    intro b_36
    intro h20
    refine ⟨by exact ⟨by assumption, by assumption⟩, ?_⟩
    intro n_38
    intro e_39
    intro h21
    refine ⟨by exact ⟨by assumption, by assumption⟩, ?_⟩
    intro n_41
    intro e_42
    intro h22
    refine ⟨by first | omega | (dsimp only; omega), ?_⟩
    refine ⟨by first | omega | (dsimp only; omega), ?_⟩
    refine br_intro (fun c23 => ?_) (fun c23 => ?_)
    ·
     simp at c23
     exfalso; omega
    ·
     simp at c23
     exfalso; omega
   intro h24
   intro b_61
   intro h25
   refine ⟨by exact ⟨by assumption, by assumption⟩, ?_⟩
   refine ⟨by exact ⟨by assumption, by assumption⟩, ?_⟩
   refine ⟨by exact ⟨by assumption, by assumption⟩, ?_⟩
   refine ⟨?_, ?_⟩
   ·
    intro e_63
    intro h26
    intro h27
    refine ⟨by exact ⟨by assumption, by assumption⟩, ?_⟩
    intro n_66
    intro e_67
    intro h28
    refine ⟨by exact ⟨by assumption, by assumption⟩, ?_⟩
    intro n_69
    intro e_70
    intro h29
    refine ⟨by first | omega | (dsimp only; omega), ?_⟩
    refine ⟨by first | omega | (dsimp only; omega), ?_⟩
    refine br_intro (fun c30 => ?_) (fun c30 => ?_)
    ·
     simp at c30
     exfalso; omega
    ·
     simp at c30
     exfalso; omega
   intro h31
   intro b_89
   intro h32
   refine ⟨by exact ⟨by assumption, by assumption⟩, ?_⟩
   intro n_91
   intro e_92
   intro h33
   refine ⟨by exact ⟨by assumption, by assumption⟩, ?_⟩
   intro n_94
   intro e_95
   intro h34
   have h35 : eqMs [] [] := by
    exact ⟨rfl⟩
   refine ⟨h35, ?_⟩
   refine ⟨by first | omega | (dsimp only; omega), ?_⟩
   refine br_intro (fun c36 => ?_) (fun c36 => ?_)
   ·
    simp at c36
    exfalso
    have Ph33 := Prod.mk.inj (h33.trans h34.symm)
    have B := h25.trans h32.symm
    first | omega | (simp_all; done) | (simp_all; omega)
   ·
    simp at c36
    refine ⟨?_, ?_⟩
    ·
     refine ⟨((0 : Int), (0 : Nat), []), ?_⟩
     refine ⟨by first | with_reducible rfl | rfl, ?_⟩
     refine ⟨by first | with_reducible rfl | rfl, ?_⟩
     refine ⟨by first | with_reducible rfl | rfl, ?_⟩
     refine ⟨by first | with_reducible rfl | rfl, ?_⟩
     refine ⟨by first | with_reducible rfl | rfl, ?_⟩
     refine ⟨by first | with_reducible rfl | rfl, ?_⟩
     refine ⟨by first | omega | (dsimp only; omega), ?_⟩
     exact ⟨rfl, fun j hj => absurd hj (Nat.not_lt_zero j), Nat.zero_le _⟩
    intro v_97
    intro h37
    intro n99
    intro q99
    intro ⟨l99, u99⟩
    refine brd (fun c38 => ?_) (fun c38 => ?_)
    ·
     refine ⟨?_, ?_⟩
     ·
      refine ⟨((0 : Int), v_97.fst, v_97.snd.fst, v_97.snd.snd), ?_⟩
      refine ⟨by first | with_reducible rfl | rfl, ?_⟩
      refine ⟨by first | with_reducible rfl | rfl, ?_⟩
      refine ⟨by first | with_reducible rfl | rfl, ?_⟩
      refine ⟨by first | with_reducible rfl | rfl, ?_⟩
      refine ⟨by first | with_reducible rfl | rfl, ?_⟩
      refine ⟨by first | with_reducible rfl | rfl, ?_⟩
      refine ⟨by first | with_reducible rfl | rfl, ?_⟩
      refine ⟨by first | omega | (dsimp only; omega), ?_⟩
      refine ⟨by first | omega | (dsimp only; omega), ?_⟩
      refine ⟨by first | with_reducible rfl | rfl, ?_⟩
      exact h37.2
     intro v_102
     intro h39
     refine ⟨by first | omega | (dsimp only; omega), ?_⟩
     refine ⟨by first | omega | (dsimp only; omega), ?_⟩
     have h40 : (0 : Nat) + v_102.snd.fst.toNat < v_102.snd.snd.snd.length := by
      have := h39.2.2.2.c1; omega
     refine ⟨h40, ?_⟩
     intro n104
     intro q104
     intro ⟨l104, u104⟩
     refine brd (fun c41 => ?_) (fun c41 => ?_)
     ·
      refine ⟨by first | omega | (dsimp only; omega), ?_⟩
      refine ⟨by first | omega | (dsimp only; omega), ?_⟩
      refine ⟨by assumption, ?_⟩
      refine ⟨by first | omega | (dsimp only; omega), ?_⟩
      refine ⟨by first | omega | (dsimp only; omega), ?_⟩
      refine ⟨by assumption, ?_⟩
      refine ⟨by first | omega | (dsimp only; omega), ?_⟩
      refine ⟨by first | omega | (dsimp only; omega), ?_⟩
      refine ⟨by first | omega | (dsimp only; omega), ?_⟩
      refine ⟨by first | omega | (dsimp only; omega), ?_⟩
      have h42 : yb ≤ (v_102.snd.snd.snd.getD ((0 : Nat) + v_102.snd.fst.toNat) (dflt (15 : Nat))).nb := by
       rw [Nat.zero_add]; exact h39.2.2.2.c2 _ (by omega)
      refine ⟨h42, ?_⟩
      intro n107
      intro q107
      first | (rw [wrI64] at q107; rotate_left 1; · omega) | rw [IntKind.wrap_i64] at q107
      intro ⟨l107, u107⟩
      refine ⟨(n107, v_102.snd.fst, v_102.snd.snd.fst, v_102.snd.snd.snd), ?_⟩
      refine ⟨by first | with_reducible rfl | rfl, ?_⟩
      refine ⟨by first | with_reducible rfl | rfl, ?_⟩
      refine ⟨by first | with_reducible rfl | rfl, ?_⟩
      refine ⟨by first | with_reducible rfl | rfl, ?_⟩
      refine ⟨by first | with_reducible rfl | rfl, ?_⟩
      refine ⟨by first | with_reducible rfl | rfl, ?_⟩
      refine ⟨by first | with_reducible rfl | rfl, ?_⟩
      refine ⟨?_, ?_⟩
      ·
       refine ⟨?_, ?_⟩
       ·
        refine ⟨by show (0 : Int) ≤ n107; omega, ?_⟩
        show n107 ≤ (↑(v_102.snd.snd.snd.getD v_102.snd.fst.toNat (dflt (15 : Nat))).n : Int); rw [Nat.zero_add] at q104; omega
       refine ⟨by first | omega | (dsimp only; omega), ?_⟩
       refine ⟨by show v_102.snd.fst.toNat * (2000000 : Nat) + v_102.snd.snd.fst = v_97.fst.toNat * (2000000 : Nat) + v_97.snd.fst; omega, ?_⟩
       exact h39.2.2.2
      show ((↑(v_102.snd.snd.snd.getD v_102.snd.fst.toNat (dflt (15 : Nat))).n : Int) - n107).toNat < ((↑(v_102.snd.snd.snd.getD v_102.snd.fst.toNat (dflt (15 : Nat))).n : Int) - v_102.fst).toNat; rw [Nat.zero_add] at q104; omega
     ·
      intro n110
      intro q110
      first | (rw [wrI64] at q110; rotate_left 1; · omega) | rw [IntKind.wrap_i64] at q110
      intro ⟨l110, u110⟩
      refine ⟨(n110, v_102.snd.snd.fst, v_102.snd.snd.snd), ?_⟩
      refine ⟨by first | with_reducible rfl | rfl, ?_⟩
      refine ⟨by first | with_reducible rfl | rfl, ?_⟩
      refine ⟨by first | with_reducible rfl | rfl, ?_⟩
      refine ⟨by first | with_reducible rfl | rfl, ?_⟩
      refine ⟨by first | with_reducible rfl | rfl, ?_⟩
      refine ⟨by first | with_reducible rfl | rfl, ?_⟩
      refine ⟨?_, ?_⟩
      ·
       refine ⟨by first | omega | (dsimp only; omega), ?_⟩
       exact h39.2.2.2
      have := h39.2.2.2.c3; have := h37.2.c3; show ((↑v_102.snd.snd.fst : Int) - n110).toNat < ((↑v_97.snd.fst : Int) - v_97.fst).toNat; omega
    ·
     refine ⟨by with_reducible rfl, ?_⟩
     refine ⟨by with_reducible rfl, ?_⟩
     exact by decide
  intro h43
  intro b_114
  intro l_115
  intro a_116
  intro ys_117
  intro n_118
  intro h44
  intro ⟨a45, b45⟩
  intro h46
  intro h47
  intro h48
  refine ⟨by exact ⟨by assumption, by assumption⟩, ?_⟩
  refine ⟨by exact ⟨by assumption, by assumption⟩, ?_⟩
  refine ⟨by exact ⟨by assumption, by assumption⟩, ?_⟩
  refine ⟨?_, ?_⟩
  ·
   intro e_124
   intro h49
   intro h50
   refine ⟨by exact ⟨by assumption, by assumption⟩, ?_⟩
   refine ⟨by exact ⟨by assumption, by assumption⟩, ?_⟩
   refine ⟨by exact ⟨by assumption, by assumption⟩, ?_⟩
   refine ⟨?_, ?_⟩
   ·
    intro e_127
    intro h51
    intro h52
    refine ⟨by exact ⟨by assumption, by assumption⟩, ?_⟩
    intro n_130
    intro e_131
    intro h53
    refine ⟨by exact ⟨by assumption, by assumption⟩, ?_⟩
    intro n_133
    intro e_134
    intro h54
    refine br_intro (fun c55 => ?_) (fun c55 => ?_)
    ·
     simp at c55
     exfalso; omega
    ·
     simp at c55
     exfalso; omega
   intro h56
   intro b_153
   intro h57
   refine ⟨by exact ⟨by assumption, by assumption⟩, ?_⟩
   intro n_155
   intro e_156
   intro h58
   refine ⟨by exact ⟨by assumption, by assumption⟩, ?_⟩
   intro n_158
   intro e_159
   intro h59
   refine br_intro (fun c60 => ?_) (fun c60 => ?_)
   ·
    simp at c60
    exfalso; omega
   ·
    simp at c60
    exfalso; omega
  intro h61
  intro b_178
  intro h62
  refine ⟨by exact ⟨by assumption, by assumption⟩, ?_⟩
  refine ⟨by exact ⟨by assumption, by assumption⟩, ?_⟩
  refine ⟨by exact ⟨by assumption, by assumption⟩, ?_⟩
  refine ⟨?_, ?_⟩
  ·
   intro e_180
   intro h63
   intro h64
   refine ⟨by exact ⟨by assumption, by assumption⟩, ?_⟩
   intro n_183
   intro e_184
   intro h65
   refine ⟨by exact ⟨by assumption, by assumption⟩, ?_⟩
   intro n_186
   intro e_187
   intro h66
   refine br_intro (fun c67 => ?_) (fun c67 => ?_)
   ·
    simp at c67
    exfalso; omega
   ·
    simp at c67
    exfalso; omega
  intro h68
  intro b_206
  intro h69
  refine ⟨by exact ⟨by assumption, by assumption⟩, ?_⟩
  intro n_208
  intro e_209
  intro h70
  refine ⟨by exact ⟨by assumption, by assumption⟩, ?_⟩
  intro n_211
  intro e_212
  intro h71
  refine br_intro (fun c72 => ?_) (fun c72 => ?_)
  ·
   simp at c72
   exfalso; omega
  ·
   simp at c72
   exfalso; omega
 intro h73
 intro b_230
 intro l_231
 intro a_232
 intro ys_233
 intro n_234
 intro h74
 intro ⟨a75, b75⟩
 intro h76
 intro h77
 intro h78
 refine ⟨by exact ⟨by assumption, by assumption⟩, ?_⟩
 refine ⟨by exact ⟨by assumption, by assumption⟩, ?_⟩
 refine ⟨by assumption, ?_⟩
 refine ⟨?_, ?_⟩
 ·
  intro e_240
  intro h79
  intro h80
  refine ⟨by exact ⟨by assumption, by assumption⟩, ?_⟩
  refine ⟨by exact ⟨by assumption, by assumption⟩, ?_⟩
  refine ⟨by exact ⟨by assumption, by assumption⟩, ?_⟩
  refine ⟨?_, ?_⟩
  ·
   intro e_243
   intro h81
   intro h82
   refine ⟨by exact ⟨by assumption, by assumption⟩, ?_⟩
   refine ⟨by exact ⟨by assumption, by assumption⟩, ?_⟩
   refine ⟨by exact ⟨by assumption, by assumption⟩, ?_⟩
   refine ⟨?_, ?_⟩
   ·
    intro e_246
    intro h83
    intro h84
    refine ⟨by exact ⟨by assumption, by assumption⟩, ?_⟩
    intro n_249
    intro e_250
    intro h85
    refine ⟨by exact ⟨by assumption, by assumption⟩, ?_⟩
    intro n_252
    intro e_253
    intro h86
    refine br_intro (fun c87 => ?_) (fun c87 => ?_)
    ·
     simp at c87
     exfalso; omega
    ·
     simp at c87
     exfalso; omega
   intro h88
   intro b_272
   intro h89
   refine ⟨by exact ⟨by assumption, by assumption⟩, ?_⟩
   intro n_274
   intro e_275
   intro h90
   refine ⟨by exact ⟨by assumption, by assumption⟩, ?_⟩
   intro n_277
   intro e_278
   intro h91
   refine br_intro (fun c92 => ?_) (fun c92 => ?_)
   ·
    simp at c92
    exfalso; omega
   ·
    simp at c92
    exfalso; omega
  intro h93
  intro b_297
  intro h94
  refine ⟨by exact ⟨by assumption, by assumption⟩, ?_⟩
  refine ⟨by exact ⟨by assumption, by assumption⟩, ?_⟩
  refine ⟨by exact ⟨by assumption, by assumption⟩, ?_⟩
  refine ⟨?_, ?_⟩
  ·
   intro e_299
   intro h95
   intro h96
   refine ⟨by exact ⟨by assumption, by assumption⟩, ?_⟩
   intro n_302
   intro e_303
   intro h97
   refine ⟨by exact ⟨by assumption, by assumption⟩, ?_⟩
   intro n_305
   intro e_306
   intro h98
   refine br_intro (fun c99 => ?_) (fun c99 => ?_)
   ·
    simp at c99
    exfalso; omega
   ·
    simp at c99
    exfalso; omega
  intro h100
  intro b_325
  intro h101
  refine ⟨by exact ⟨by assumption, by assumption⟩, ?_⟩
  intro n_327
  intro e_328
  intro h102
  refine ⟨by exact ⟨by assumption, by assumption⟩, ?_⟩
  intro n_330
  intro e_331
  intro h103
  refine br_intro (fun c104 => ?_) (fun c104 => ?_)
  ·
   simp at c104
   exfalso; omega
  ·
   simp at c104
   exfalso; omega
 intro h105
 intro b_350
 intro l_351
 intro a_352
 intro ys_353
 intro n_354
 intro h106
 intro ⟨a107, b107⟩
 intro h108
 intro h109
 intro h110
 refine ⟨by exact ⟨by assumption, by assumption⟩, ?_⟩
 refine ⟨by exact ⟨by assumption, by assumption⟩, ?_⟩
 refine ⟨by exact ⟨by assumption, by assumption⟩, ?_⟩
 refine ⟨?_, ?_⟩
 ·
  intro e_360
  intro h111
  intro h112
  refine ⟨by exact ⟨by assumption, by assumption⟩, ?_⟩
  refine ⟨by exact ⟨by assumption, by assumption⟩, ?_⟩
  refine ⟨by exact ⟨by assumption, by assumption⟩, ?_⟩
  refine ⟨?_, ?_⟩
  ·
   intro e_363
   intro h113
   intro h114
   refine ⟨by exact ⟨by assumption, by assumption⟩, ?_⟩
   intro n_366
   intro e_367
   intro h115
   refine ⟨by exact ⟨by assumption, by assumption⟩, ?_⟩
   intro n_369
   intro e_370
   intro h116
   refine br_intro (fun c117 => ?_) (fun c117 => ?_)
   ·
    simp at c117
    refine ⟨by with_reducible rfl, ?_⟩
    exfalso
    have Ph115 := Prod.mk.inj (h115.trans h116.symm)
    have Ph74 := Prod.mk.inj (h74.trans h106.symm)
    have L : ys_233.length = ys_353.length := by rw [h76, h108, List.length_map]
    have e0 : n_234 = n_354 := by omega
    have A : a_232 = a_352 := by rw [h78, h110, e0]
    first | omega | (simp_all; done) | (simp_all; omega)
   ·
    simp at c117
    have h118 : eqMs (List.map YMsg.old (List.take n_234 (List.drop (0 : Nat) ys_233))) (List.take n_354 (List.drop (0 : Nat) ys_353)) := by
     refine ⟨?_⟩; rw [List.drop_zero, List.drop_zero, List.take_of_length_le (by omega), List.take_of_length_le (by omega), h76, old_yng, h108]
    refine ⟨h118, ?_⟩
    have h119 : (List.map YMsg.old (List.take n_234 (List.drop (0 : Nat) ys_233))).length ≤ (1048576 : Nat) := by
     rw [List.drop_zero, List.take_of_length_le (by omega), h76, old_yng]; have := tk_length (an, la) got; have := hs.c1; omega
    refine ⟨h119, ?_⟩
    refine br_intro (fun c120 => ?_) (fun c120 => ?_)
    ·
     simp at c120
     exfalso
     have Ph115 := Prod.mk.inj (h115.trans h116.symm)
     have Ph74 := Prod.mk.inj (h74.trans h106.symm)
     have L : ys_233.length = ys_353.length := by rw [h76, h108, List.length_map]
     have e0 : n_234 = n_354 := by omega
     have A : a_232 = a_352 := by rw [h78, h110, e0]
     first | omega | (simp_all; done) | (simp_all; omega)
    ·
     simp at c120
     refine ⟨?_, ?_⟩
     ·
      refine ⟨((0 : Int), n_234, List.map YMsg.wild ys_233), ?_⟩
      refine ⟨by first | with_reducible rfl | rfl, ?_⟩
      refine ⟨by first | with_reducible rfl | rfl, ?_⟩
      refine ⟨by first | with_reducible rfl | rfl, ?_⟩
      refine ⟨by first | with_reducible rfl | rfl, ?_⟩
      refine ⟨by first | with_reducible rfl | rfl, ?_⟩
      refine ⟨by first | with_reducible rfl | rfl, ?_⟩
      refine ⟨by first | omega | (dsimp only; omega), ?_⟩
      exact wil_yng h76 h77 hs
     intro v_372
     intro h121
     intro n374
     intro q374
     intro ⟨l374, u374⟩
     refine brd (fun c122 => ?_) (fun c122 => ?_)
     ·
      refine ⟨?_, ?_⟩
      ·
       refine ⟨((0 : Int), v_372.fst, v_372.snd.fst, v_372.snd.snd), ?_⟩
       refine ⟨by first | with_reducible rfl | rfl, ?_⟩
       refine ⟨by first | with_reducible rfl | rfl, ?_⟩
       refine ⟨by first | with_reducible rfl | rfl, ?_⟩
       refine ⟨by first | with_reducible rfl | rfl, ?_⟩
       refine ⟨by first | with_reducible rfl | rfl, ?_⟩
       refine ⟨by first | with_reducible rfl | rfl, ?_⟩
       refine ⟨by first | with_reducible rfl | rfl, ?_⟩
       refine ⟨by first | omega | (dsimp only; omega), ?_⟩
       refine ⟨by first | omega | (dsimp only; omega), ?_⟩
       refine ⟨by first | with_reducible rfl | rfl, ?_⟩
       exact h121.2
      intro v_377
      intro h123
      refine ⟨by first | omega | (dsimp only; omega), ?_⟩
      refine ⟨by first | omega | (dsimp only; omega), ?_⟩
      have h124 : (0 : Nat) + v_377.snd.fst.toNat < v_377.snd.snd.snd.length := by
       have := h123.2.2.2.c1; omega
      refine ⟨h124, ?_⟩
      intro n379
      intro q379
      intro ⟨l379, u379⟩
      refine brd (fun c125 => ?_) (fun c125 => ?_)
      ·
       refine ⟨by first | omega | (dsimp only; omega), ?_⟩
       refine ⟨by first | omega | (dsimp only; omega), ?_⟩
       refine ⟨by assumption, ?_⟩
       refine ⟨by first | omega | (dsimp only; omega), ?_⟩
       refine ⟨by first | omega | (dsimp only; omega), ?_⟩
       refine ⟨by assumption, ?_⟩
       refine ⟨by first | omega | (dsimp only; omega), ?_⟩
       refine ⟨by first | omega | (dsimp only; omega), ?_⟩
       refine ⟨by first | omega | (dsimp only; omega), ?_⟩
       refine ⟨by first | omega | (dsimp only; omega), ?_⟩
       have h126 : yb ≤ (v_377.snd.snd.snd.getD ((0 : Nat) + v_377.snd.fst.toNat) (dflt (15 : Nat))).nb := by
        rw [Nat.zero_add]; exact h123.2.2.2.c2 _ (by omega)
       refine ⟨h126, ?_⟩
       intro n382
       intro q382
       first | (rw [wrI64] at q382; rotate_left 1; · omega) | rw [IntKind.wrap_i64] at q382
       intro ⟨l382, u382⟩
       refine ⟨(n382, v_377.snd.fst, v_377.snd.snd.fst, v_377.snd.snd.snd), ?_⟩
       refine ⟨by first | with_reducible rfl | rfl, ?_⟩
       refine ⟨by first | with_reducible rfl | rfl, ?_⟩
       refine ⟨by first | with_reducible rfl | rfl, ?_⟩
       refine ⟨by first | with_reducible rfl | rfl, ?_⟩
       refine ⟨by first | with_reducible rfl | rfl, ?_⟩
       refine ⟨by first | with_reducible rfl | rfl, ?_⟩
       refine ⟨by first | with_reducible rfl | rfl, ?_⟩
       refine ⟨?_, ?_⟩
       ·
        refine ⟨?_, ?_⟩
        ·
         refine ⟨by show (0 : Int) ≤ n382; omega, ?_⟩
         show n382 ≤ (↑(v_377.snd.snd.snd.getD v_377.snd.fst.toNat (dflt (15 : Nat))).n : Int); rw [Nat.zero_add] at q379; omega
        refine ⟨by first | omega | (dsimp only; omega), ?_⟩
        refine ⟨by show v_377.snd.fst.toNat * (2000000 : Nat) + v_377.snd.snd.fst = v_372.fst.toNat * (2000000 : Nat) + v_372.snd.fst; omega, ?_⟩
        exact h123.2.2.2
       show ((↑(v_377.snd.snd.snd.getD v_377.snd.fst.toNat (dflt (15 : Nat))).n : Int) - n382).toNat < ((↑(v_377.snd.snd.snd.getD v_377.snd.fst.toNat (dflt (15 : Nat))).n : Int) - v_377.fst).toNat; rw [Nat.zero_add] at q379; omega
      ·
       intro n385
       intro q385
       first | (rw [wrI64] at q385; rotate_left 1; · omega) | rw [IntKind.wrap_i64] at q385
       intro ⟨l385, u385⟩
       refine ⟨(n385, v_377.snd.snd.fst, v_377.snd.snd.snd), ?_⟩
       refine ⟨by first | with_reducible rfl | rfl, ?_⟩
       refine ⟨by first | with_reducible rfl | rfl, ?_⟩
       refine ⟨by first | with_reducible rfl | rfl, ?_⟩
       refine ⟨by first | with_reducible rfl | rfl, ?_⟩
       refine ⟨by first | with_reducible rfl | rfl, ?_⟩
       refine ⟨by first | with_reducible rfl | rfl, ?_⟩
       refine ⟨?_, ?_⟩
       ·
        refine ⟨by first | omega | (dsimp only; omega), ?_⟩
        exact h123.2.2.2
       have := h123.2.2.2.c3; have := h121.2.c3; show ((↑v_377.snd.snd.fst : Int) - n385).toNat < ((↑v_372.snd.fst : Int) - v_372.fst).toNat; omega
     ·
      refine ⟨by with_reducible rfl, ?_⟩
      refine ⟨by with_reducible rfl, ?_⟩
      exact by decide
  intro h127
  intro b_389
  intro h128
  refine ⟨by exact ⟨by assumption, by assumption⟩, ?_⟩
  intro n_391
  intro e_392
  intro h129
  refine ⟨by exact ⟨by assumption, by assumption⟩, ?_⟩
  intro n_394
  intro e_395
  intro h130
  refine br_intro (fun c131 => ?_) (fun c131 => ?_)
  ·
   simp at c131
   exfalso; omega
  ·
   simp at c131
   exfalso; omega
 intro h132
 intro b_414
 intro h133
 refine ⟨by exact ⟨by assumption, by assumption⟩, ?_⟩
 refine ⟨by exact ⟨by assumption, by assumption⟩, ?_⟩
 refine ⟨by exact ⟨by assumption, by assumption⟩, ?_⟩
 refine ⟨?_, ?_⟩
 ·
  intro e_416
  intro h134
  intro h135
  refine ⟨by exact ⟨by assumption, by assumption⟩, ?_⟩
  intro n_419
  intro e_420
  intro h136
  refine ⟨by exact ⟨by assumption, by assumption⟩, ?_⟩
  intro n_422
  intro e_423
  intro h137
  refine br_intro (fun c138 => ?_) (fun c138 => ?_)
  ·
   simp at c138
   exfalso; omega
  ·
   simp at c138
   exfalso; omega
 intro h139
 intro b_442
 intro h140
 refine ⟨by exact ⟨by assumption, by assumption⟩, ?_⟩
 intro n_444
 intro e_445
 intro h141
 refine ⟨by exact ⟨by assumption, by assumption⟩, ?_⟩
 intro n_447
 intro e_448
 intro h142
 refine br_intro (fun c143 => ?_) (fun c143 => ?_)
 ·
  simp at c143
  refine ⟨by with_reducible rfl, ?_⟩
  exfalso
  have Ph141 := Prod.mk.inj (h141.trans h142.symm)
  have Ph74 := Prod.mk.inj (h74.trans h106.symm)
  have B := h133.trans h140.symm
  have L : ys_233.length = ys_353.length := by rw [h76, h108, List.length_map]
  have e0 : n_234 = n_354 := by omega
  have A : a_232 = a_352 := by rw [h78, h110, e0]
  first | omega | (simp_all; done) | (simp_all; omega)
 ·
  simp at c143
  have h144 : eqMs (List.map YMsg.old (List.take n_234 (List.drop (0 : Nat) ys_233))) (List.take n_354 (List.drop (0 : Nat) ys_353)) := by
   refine ⟨?_⟩; rw [List.drop_zero, List.drop_zero, List.take_of_length_le (by omega), List.take_of_length_le (by omega), h76, old_yng, h108]
  refine ⟨h144, ?_⟩
  have h145 : (List.map YMsg.old (List.take n_234 (List.drop (0 : Nat) ys_233))).length ≤ (1048576 : Nat) := by
   rw [List.drop_zero, List.take_of_length_le (by omega), h76, old_yng]; have := tk_length (an, la) got; have := hs.c1; omega
  refine ⟨h145, ?_⟩
  refine br_intro (fun c146 => ?_) (fun c146 => ?_)
  ·
   simp at c146
   exfalso
   have Ph141 := Prod.mk.inj (h141.trans h142.symm)
   have Ph74 := Prod.mk.inj (h74.trans h106.symm)
   have B := h133.trans h140.symm
   have L : ys_233.length = ys_353.length := by rw [h76, h108, List.length_map]
   have e0 : n_234 = n_354 := by omega
   have A : a_232 = a_352 := by rw [h78, h110, e0]
   first | omega | (simp_all; done) | (simp_all; omega)
  ·
   simp at c146
   refine ⟨?_, ?_⟩
   ·
    refine ⟨((0 : Int), n_234, List.map YMsg.wild ys_233), ?_⟩
    refine ⟨by first | with_reducible rfl | rfl, ?_⟩
    refine ⟨by first | with_reducible rfl | rfl, ?_⟩
    refine ⟨by first | with_reducible rfl | rfl, ?_⟩
    refine ⟨by first | with_reducible rfl | rfl, ?_⟩
    refine ⟨by first | with_reducible rfl | rfl, ?_⟩
    refine ⟨by first | with_reducible rfl | rfl, ?_⟩
    refine ⟨by first | omega | (dsimp only; omega), ?_⟩
    exact wil_yng h76 h77 hs
   intro v_450
   intro h147
   intro n452
   intro q452
   intro ⟨l452, u452⟩
   refine brd (fun c148 => ?_) (fun c148 => ?_)
   ·
    refine ⟨?_, ?_⟩
    ·
     refine ⟨((0 : Int), v_450.fst, v_450.snd.fst, v_450.snd.snd), ?_⟩
     refine ⟨by first | with_reducible rfl | rfl, ?_⟩
     refine ⟨by first | with_reducible rfl | rfl, ?_⟩
     refine ⟨by first | with_reducible rfl | rfl, ?_⟩
     refine ⟨by first | with_reducible rfl | rfl, ?_⟩
     refine ⟨by first | with_reducible rfl | rfl, ?_⟩
     refine ⟨by first | with_reducible rfl | rfl, ?_⟩
     refine ⟨by first | with_reducible rfl | rfl, ?_⟩
     refine ⟨by first | omega | (dsimp only; omega), ?_⟩
     refine ⟨by first | omega | (dsimp only; omega), ?_⟩
     refine ⟨by first | with_reducible rfl | rfl, ?_⟩
     exact h147.2
    intro v_455
    intro h149
    refine ⟨by first | omega | (dsimp only; omega), ?_⟩
    refine ⟨by first | omega | (dsimp only; omega), ?_⟩
    have h150 : (0 : Nat) + v_455.snd.fst.toNat < v_455.snd.snd.snd.length := by
     have := h149.2.2.2.c1; omega
    refine ⟨h150, ?_⟩
    intro n457
    intro q457
    intro ⟨l457, u457⟩
    refine brd (fun c151 => ?_) (fun c151 => ?_)
    ·
     refine ⟨by first | omega | (dsimp only; omega), ?_⟩
     refine ⟨by first | omega | (dsimp only; omega), ?_⟩
     refine ⟨by assumption, ?_⟩
     refine ⟨by first | omega | (dsimp only; omega), ?_⟩
     refine ⟨by first | omega | (dsimp only; omega), ?_⟩
     refine ⟨by assumption, ?_⟩
     refine ⟨by first | omega | (dsimp only; omega), ?_⟩
     refine ⟨by first | omega | (dsimp only; omega), ?_⟩
     refine ⟨by first | omega | (dsimp only; omega), ?_⟩
     refine ⟨by first | omega | (dsimp only; omega), ?_⟩
     have h152 : yb ≤ (v_455.snd.snd.snd.getD ((0 : Nat) + v_455.snd.fst.toNat) (dflt (15 : Nat))).nb := by
      rw [Nat.zero_add]; exact h149.2.2.2.c2 _ (by omega)
     refine ⟨h152, ?_⟩
     intro n460
     intro q460
     first | (rw [wrI64] at q460; rotate_left 1; · omega) | rw [IntKind.wrap_i64] at q460
     intro ⟨l460, u460⟩
     refine ⟨(n460, v_455.snd.fst, v_455.snd.snd.fst, v_455.snd.snd.snd), ?_⟩
     refine ⟨by first | with_reducible rfl | rfl, ?_⟩
     refine ⟨by first | with_reducible rfl | rfl, ?_⟩
     refine ⟨by first | with_reducible rfl | rfl, ?_⟩
     refine ⟨by first | with_reducible rfl | rfl, ?_⟩
     refine ⟨by first | with_reducible rfl | rfl, ?_⟩
     refine ⟨by first | with_reducible rfl | rfl, ?_⟩
     refine ⟨by first | with_reducible rfl | rfl, ?_⟩
     refine ⟨?_, ?_⟩
     ·
      refine ⟨?_, ?_⟩
      ·
       refine ⟨by show (0 : Int) ≤ n460; omega, ?_⟩
       show n460 ≤ (↑(v_455.snd.snd.snd.getD v_455.snd.fst.toNat (dflt (15 : Nat))).n : Int); rw [Nat.zero_add] at q457; omega
      refine ⟨by first | omega | (dsimp only; omega), ?_⟩
      refine ⟨by show v_455.snd.fst.toNat * (2000000 : Nat) + v_455.snd.snd.fst = v_450.fst.toNat * (2000000 : Nat) + v_450.snd.fst; omega, ?_⟩
      exact h149.2.2.2
     show ((↑(v_455.snd.snd.snd.getD v_455.snd.fst.toNat (dflt (15 : Nat))).n : Int) - n460).toNat < ((↑(v_455.snd.snd.snd.getD v_455.snd.fst.toNat (dflt (15 : Nat))).n : Int) - v_455.fst).toNat; rw [Nat.zero_add] at q457; omega
    ·
     intro n463
     intro q463
     first | (rw [wrI64] at q463; rotate_left 1; · omega) | rw [IntKind.wrap_i64] at q463
     intro ⟨l463, u463⟩
     refine ⟨(n463, v_455.snd.snd.fst, v_455.snd.snd.snd), ?_⟩
     refine ⟨by first | with_reducible rfl | rfl, ?_⟩
     refine ⟨by first | with_reducible rfl | rfl, ?_⟩
     refine ⟨by first | with_reducible rfl | rfl, ?_⟩
     refine ⟨by first | with_reducible rfl | rfl, ?_⟩
     refine ⟨by first | with_reducible rfl | rfl, ?_⟩
     refine ⟨by first | with_reducible rfl | rfl, ?_⟩
     refine ⟨?_, ?_⟩
     ·
      refine ⟨by first | omega | (dsimp only; omega), ?_⟩
      exact h149.2.2.2
     have := h149.2.2.2.c3; have := h147.2.c3; show ((↑v_455.snd.snd.fst : Int) - n463).toNat < ((↑v_450.snd.fst : Int) - v_450.fst).toNat; omega
   ·
    refine ⟨by with_reducible rfl, ?_⟩
    refine ⟨by with_reducible rfl, ?_⟩
    exact by decide

set_option maxHeartbeats 2000000 in
theorem takes3_vc (got : List Msg) (hs : small got) (k : AV → List (Option Blk) → List Blk → Prop) (hk : k (AV.bool true) [] []) :
 (eqMs got got) ∧
 (got.length ≤ (1048576 : Nat)) ∧
 (k (AV.bool true) [] []) := by
 have h1 : eqMs got got := by
  exact ⟨rfl⟩
 refine ⟨h1, ?_⟩
 have h2 : got.length ≤ (1048576 : Nat) := by
  exact hs.c1
 refine ⟨h2, ?_⟩
 exact hk

end Go.Proofs.Ytpkfadgennejnaa

