import Derived.Test.YtcdflgfhkohldaaStL
import Derived.Test.YtcdflgfhkohldaaStCr
namespace Go.Proofs.Ytcdflgfhkohldaa
open Go Go.Eng Go.Rw Go.Lk Go.Proofs
open Go.Bk hiding take_step drop_step set_mid
open Go.St hiding take_step
set_option linter.unusedVariables false
set_option maxHeartbeats 2000000 in
theorem rone_vc (m : Int) (b : List UInt8) (bad : Bool) (hm : 0 ≤ m ∧ m ≤ 9223372036854775807) (hb : b.length ≤ 1000000) (k : AV → List (Option Blk) → List Blk → Prop) (hk : ∀ (v : Int) (r : List UInt8) (bd : Bool), v = oneV m b → r = oneR m b → bd = (bad || oneB m b) → 0 ≤ v ∧ v ≤ m → r.length ≤ b.length → k (.int .i64 v) [some (.cells [.sl 0 r, .bool bd])] []) : (b.length ≤ 1000000) ∧ ∀ (a_1 : Int), ∀ (b_2 : Int), ∀ (c_3 : Int), (a_1 = (↑(readG 0 0 b).fst : Int)) → (b_2 = (↑(readG 0 0 b).snd.fst : Int)) → (c_3 = (↑(readG 0 0 b).snd.snd : Int)) → (inK .u64 a_1) → (0 ≤ b_2 ∧ b_2 ≤ 10) → (c_3 = 0 ∨ c_3 = 8) → ∀ (n10 : Int), (n10 = IntKind.u64.wrap m) → br (bif c_3 != 0 then true else decide (a_1 > n10)) ((k (.int .i64 0) [some (.cells [.sl 0 b, .bool true])] [])) ((0 ≤ b_2) ∧ (b_2 ≤ (↑b.length : Int)) ∧ ∀ (n12 : Int), (n12 = IntKind.i64.wrap a_1) → (inK .i64 n12) → (k (.int .i64 n12) [some (.cells [.sl 0 (List.drop b_2.toNat b), .bool bad])] [])) := by
 refine ⟨by assumption, ?_⟩
 intro a_1 b_2 c_3 h1 h2 h3 ⟨a4, b4⟩ ⟨a5, b5⟩ h6 n10 q10
 rw [IntKind.wrap_u64] at q10
 refine br_intro (fun c7 => ?_) (fun c7 => ?_)
 ·
  simp at c7
  have C : ¬ ((readG 0 0 b).2.2 = 0 ∧ ((readG 0 0 b).1 : Int) ≤ m) := by omega
  exact hk 0 b true (by unfold oneV; rw [if_neg C]) (by unfold oneR; rw [if_neg C]) (by unfold oneB; rw [if_neg C]; simp) ⟨by omega, by omega⟩ (Nat.le_refl _)
 simp at c7
 refine ⟨by assumption, ?_⟩
 have h8 : b_2 ≤ (↑b.length : Int) := by
  rcases read_only b with R | ⟨m', j, R, r1, r2, r3, r4⟩ <;> rw [R] at h2 h3 <;> dsimp only at h2 h3 <;> omega
 refine ⟨h8, ?_⟩
 intro n12 q12
 rw [IntKind.wrap_i64] at q12
 intro ⟨l12, u12⟩
 have C : (readG 0 0 b).2.2 = 0 ∧ ((readG 0 0 b).1 : Int) ≤ m := by omega
 exact hk n12 _ bad (by unfold oneV; rw [if_pos C]; omega) (by unfold oneR; rw [if_pos C]; congr 1; omega) (by unfold oneB; rw [if_pos C]; simp) ⟨by omega, by omega⟩ (by rw [List.length_drop]; omega)
theorem rone_ok : Holds Try.prog 82 roneS := by
  refine fn_soundB (env := mkEnv M1r) (tab_ok M1r_ok) Try.func82 Try.call82 (fun args B k h => ?_) (by decide)
  unfold roneS at h
  dsimp only at h
  split at h
  · rename_i m b bad
    exact ⟨by kernel_rfl, fun _ _ => none, fun _ _ => none, .cast (by kernel_rfl) (rone_vc m b bad h.1 h.2.1 k h.2.2)⟩
  · exact h.elim
theorem K2r_ok : TabOk Try.prog K2r := ⟨rone_ok, trivial⟩
set_option maxHeartbeats 2000000 in
theorem rplans_vc (b : List UInt8) (hb : b.length ≤ 1000000) (k : AV → List (Option Blk) → List Blk → Prop) (hk : ∀ (l : List Plan) (q : Nat) (r : List UInt8) (bd : Bool), (bd = false → PIn b (oneV (8 : Int) b).toNat bd r l) → (bd = true → rdP b = none) → l.length = q → q ≤ 8 → r.length ≤ b.length → k (.row 10 1 0 q) [some (.cells [.sl 0 r, .bool bd])] [.row 10 l]) : (((0 : Int) ≤ (8 : Int)) ∧ ((8 : Int) ≤ (9223372036854775807 : Int))) ∧ (b.length ≤ 1000000) ∧ ∀ (v_1 : Int), ∀ (r_2 : List UInt8), ∀ (bd_3 : Bool), (v_1 = oneV (8 : Int) b) → (r_2 = oneR (8 : Int) b) → (bd_3 = (false || oneB (8 : Int) b)) → (0 ≤ v_1 ∧ v_1 ≤ 8) → (r_2.length ≤ b.length) → (∃ (v : Nat × Bool × List UInt8 × List Plan), (0 = 0) ∧ (0 = v.fst) ∧ (v_1 = oneV (8 : Int) b) ∧ ((0 : Int) = (↑v.fst : Int)) ∧ (r_2 = v.snd.snd.fst) ∧ (bd_3 = v.snd.fst) ∧ ([] = v.snd.snd.snd) ∧ (v.fst ≤ (oneV (8 : Int) b).toNat) ∧ ((0 ≤ oneV (8 : Int) b) ∧ (oneV (8 : Int) b ≤ 8)) ∧ (b.length ≤ 1000000) ∧ (v.snd.snd.fst.length ≤ b.length) ∧ (v.snd.snd.snd.length = v.fst) ∧ (PIn b v.fst v.snd.fst v.snd.snd.fst v.snd.snd.snd)) ∧ ∀ (v_9 : Nat × Bool × List UInt8 × List Plan), (v_9.fst ≤ (oneV (8 : Int) b).toNat ∧ (0 ≤ oneV (8 : Int) b ∧ oneV (8 : Int) b ≤ 8) ∧ b.length ≤ 1000000 ∧ v_9.snd.snd.fst.length ≤ b.length ∧ v_9.snd.snd.snd.length = v_9.fst ∧ PIn b v_9.fst v_9.snd.fst v_9.snd.snd.fst v_9.snd.snd.snd) → br (bif decide ((↑v_9.fst : Int) < oneV (8 : Int) b) then !v_9.snd.fst else false) ((((0 : Int) ≤ (1048576 : Int)) ∧ ((1048576 : Int) ≤ (9223372036854775807 : Int))) ∧ (v_9.snd.snd.fst.length ≤ 1000000) ∧ ∀ (v_11 : Int), ∀ (r_12 : List UInt8), ∀ (bd_13 : Bool), (v_11 = oneV (1048576 : Int) v_9.snd.snd.fst) → (r_12 = oneR (1048576 : Int) v_9.snd.snd.fst) → (bd_13 = (v_9.snd.fst || oneB (1048576 : Int) v_9.snd.snd.fst)) → (0 ≤ v_11 ∧ v_11 ≤ 1048576) → (r_12.length ≤ v_9.snd.snd.fst.length) → (((0 : Int) ≤ (1048576 : Int)) ∧ ((1048576 : Int) ≤ (9223372036854775807 : Int))) ∧ (r_12.length ≤ 1000000) ∧ ∀ (v_19 : Int), ∀ (r_20 : List UInt8), ∀ (bd_21 : Bool), (v_19 = oneV (1048576 : Int) r_12) → (r_20 = oneR (1048576 : Int) r_12) → (bd_21 = (bd_13 || oneB (1048576 : Int) r_12)) → (0 ≤ v_19 ∧ v_19 ≤ 1048576) → (r_20.length ≤ r_12.length) → (((0 : Int) ≤ (8 : Int)) ∧ ((8 : Int) ≤ (9223372036854775807 : Int))) ∧ (r_20.length ≤ 1000000) ∧ ∀ (v_27 : Int), ∀ (r_28 : List UInt8), ∀ (bd_29 : Bool), (v_27 = oneV (8 : Int) r_20) → (r_28 = oneR (8 : Int) r_20) → (bd_29 = (bd_21 || oneB (8 : Int) r_20)) → (0 ≤ v_27 ∧ v_27 ≤ 8) → (r_28.length ≤ r_20.length) → (∃ (v : Nat × Bool × List UInt8 × List Plan × Int × Int × Int × List Int), (0 = 0) ∧ (v_9.fst = v_9.fst) ∧ (oneV (8 : Int) b = oneV (8 : Int) b) ∧ ((↑v_9.fst : Int) = (↑v_9.fst : Int)) ∧ (v_27 = v.snd.snd.snd.snd.snd.snd.fst) ∧ ((0 : Int) = (↑v.fst : Int)) ∧ (r_28 = v.snd.snd.fst) ∧ (bd_29 = v.snd.fst) ∧ (v_9.snd.snd.snd = v.snd.snd.snd.fst) ∧ ([] = v.snd.snd.snd.snd.snd.snd.snd) ∧ (v_11 = v.snd.snd.snd.snd.fst) ∧ (v_19 = v.snd.snd.snd.snd.snd.fst) ∧ (0 = 0) ∧ (0 = v.fst) ∧ (v.fst ≤ v.snd.snd.snd.snd.snd.snd.fst.toNat) ∧ ((0 ≤ v.snd.snd.snd.snd.snd.snd.fst) ∧ (v.snd.snd.snd.snd.snd.snd.fst ≤ 8)) ∧ (v_9.fst < (oneV (8 : Int) b).toNat) ∧ ((0 ≤ oneV (8 : Int) b) ∧ (oneV (8 : Int) b ≤ 8)) ∧ (b.length ≤ 1000000) ∧ (v.snd.snd.fst.length ≤ b.length) ∧ (v.snd.snd.snd.fst.length = v_9.fst) ∧ ((0 ≤ v.snd.snd.snd.snd.fst) ∧ (v.snd.snd.snd.snd.fst ≤ 1048576)) ∧ ((0 ≤ v.snd.snd.snd.snd.snd.fst) ∧ (v.snd.snd.snd.snd.snd.fst ≤ 1048576)) ∧ (v.snd.snd.snd.snd.snd.snd.snd.length = v.fst) ∧ (PB b v_9.fst v.snd.snd.snd.snd.fst v.snd.snd.snd.snd.snd.fst v.snd.snd.snd.snd.snd.snd.fst v.fst v.snd.fst v.snd.snd.fst v.snd.snd.snd.fst v.snd.snd.snd.snd.snd.snd.snd)) ∧ ∀ (v_35 : Nat × Bool × List UInt8 × List Plan × Int × Int × Int × List Int), (v_35.fst ≤ v_35.snd.snd.snd.snd.snd.snd.fst.toNat ∧ (0 ≤ v_35.snd.snd.snd.snd.snd.snd.fst ∧ v_35.snd.snd.snd.snd.snd.snd.fst ≤ 8) ∧ v_9.fst < (oneV (8 : Int) b).toNat ∧ (0 ≤ oneV (8 : Int) b ∧ oneV (8 : Int) b ≤ 8) ∧ b.length ≤ 1000000 ∧ v_35.snd.snd.fst.length ≤ b.length ∧ v_35.snd.snd.snd.fst.length = v_9.fst ∧ (0 ≤ v_35.snd.snd.snd.snd.fst ∧ v_35.snd.snd.snd.snd.fst ≤ 1048576) ∧ (0 ≤ v_35.snd.snd.snd.snd.snd.fst ∧ v_35.snd.snd.snd.snd.snd.fst ≤ 1048576) ∧ v_35.snd.snd.snd.snd.snd.snd.snd.length = v_35.fst ∧ PB b v_9.fst v_35.snd.snd.snd.snd.fst v_35.snd.snd.snd.snd.snd.fst v_35.snd.snd.snd.snd.snd.snd.fst v_35.fst v_35.snd.fst v_35.snd.snd.fst v_35.snd.snd.snd.fst v_35.snd.snd.snd.snd.snd.snd.snd) → br (bif decide ((↑v_35.fst : Int) < v_35.snd.snd.snd.snd.snd.snd.fst) then !v_35.snd.fst else false) ((((((0 : Int) ≤ (1048576 : Int)) ∧ ((1048576 : Int) ≤ (9223372036854775807 : Int))) ∧ (v_35.snd.snd.fst.length ≤ 1000000) ∧ ∀ (v_37 : Int), ∀ (r_38 : List UInt8), ∀ (bd_39 : Bool), (v_37 = oneV (1048576 : Int) v_35.snd.snd.fst) → (r_38 = oneR (1048576 : Int) v_35.snd.snd.fst) → (bd_39 = (v_35.snd.fst || oneB (1048576 : Int) v_35.snd.snd.fst)) → (0 ≤ v_37 ∧ v_37 ≤ 1048576) → (r_38.length ≤ v_35.snd.snd.fst.length) → ((v_35.fst + 1) * 8 ≤ 140737488355328) ∧ ∀ (z45 : List Int), (z45 = List.take v_35.fst v_35.snd.snd.snd.snd.snd.snd.snd ++ List.take 1 (List.drop 0 [v_37])) → ∀ (n47 : Int), (n47 = IntKind.i64.wrap ((↑v_35.fst : Int) + (1 : Int))) → (inK .i64 n47) → ∃ (v' : Nat × Bool × List UInt8 × List Plan × Int × Int × Int × List Int), (0 = 0) ∧ (v_9.fst = v_9.fst) ∧ (oneV (8 : Int) b = oneV (8 : Int) b) ∧ ((↑v_9.fst : Int) = (↑v_9.fst : Int)) ∧ (v_35.snd.snd.snd.snd.snd.snd.fst = v'.snd.snd.snd.snd.snd.snd.fst) ∧ (n47 = (↑v'.fst : Int)) ∧ (r_38 = v'.snd.snd.fst) ∧ (bd_39 = v'.snd.fst) ∧ (v_35.snd.snd.snd.fst = v'.snd.snd.snd.fst) ∧ (z45 = v'.snd.snd.snd.snd.snd.snd.snd) ∧ (v_35.snd.snd.snd.snd.fst = v'.snd.snd.snd.snd.fst) ∧ (v_35.snd.snd.snd.snd.snd.fst = v'.snd.snd.snd.snd.snd.fst) ∧ (0 = 0) ∧ (v_35.fst + 1 = v'.fst) ∧ ((v'.fst ≤ v'.snd.snd.snd.snd.snd.snd.fst.toNat) ∧ ((0 ≤ v'.snd.snd.snd.snd.snd.snd.fst) ∧ (v'.snd.snd.snd.snd.snd.snd.fst ≤ (8 : Int))) ∧ (v_9.fst < (oneV (8 : Int) b).toNat) ∧ ((0 ≤ oneV (8 : Int) b) ∧ (oneV (8 : Int) b ≤ 8)) ∧ (b.length ≤ 1000000) ∧ (v'.snd.snd.fst.length ≤ b.length) ∧ (v'.snd.snd.snd.fst.length = v_9.fst) ∧ ((0 ≤ v'.snd.snd.snd.snd.fst) ∧ (v'.snd.snd.snd.snd.fst ≤ (1048576 : Int))) ∧ ((0 ≤ v'.snd.snd.snd.snd.snd.fst) ∧ (v'.snd.snd.snd.snd.snd.fst ≤ (1048576 : Int))) ∧ (v'.snd.snd.snd.snd.snd.snd.snd.length = v'.fst) ∧ (PB b v_9.fst v'.snd.snd.snd.snd.fst v'.snd.snd.snd.snd.snd.fst v'.snd.snd.snd.snd.snd.snd.fst v'.fst v'.snd.fst v'.snd.snd.fst v'.snd.snd.snd.fst v'.snd.snd.snd.snd.snd.snd.snd)) ∧ (v'.snd.snd.snd.snd.snd.snd.fst.toNat - v'.fst < v_35.snd.snd.snd.snd.snd.snd.fst.toNat - v_35.fst)) ∧ (((0 : Int) ≤ (1048576 : Int)) ∧ ((1048576 : Int) ≤ (9223372036854775807 : Int))) ∧ (v_35.snd.snd.fst.length ≤ 1000000) ∧ ∀ (v_50 : Int), ∀ (r_51 : List UInt8), ∀ (bd_52 : Bool), (v_50 = oneV (1048576 : Int) v_35.snd.snd.fst) → (r_51 = oneR (1048576 : Int) v_35.snd.snd.fst) → (bd_52 = (v_35.snd.fst || oneB (1048576 : Int) v_35.snd.snd.fst)) → (0 ≤ v_50 ∧ v_50 ≤ 1048576) → (r_51.length ≤ v_35.snd.snd.fst.length) → ((v_35.fst + 1) * 8 ≤ 140737488355328) ∧ ∀ (z58 : List Int), (z58 = List.take v_35.fst v_35.snd.snd.snd.snd.snd.snd.snd ++ List.take 1 (List.drop 0 [v_50])) → ∀ (n60 : Int), (n60 = IntKind.i64.wrap ((↑v_35.fst : Int) + (1 : Int))) → (inK .i64 n60) → ∃ (v' : Nat × Bool × List UInt8 × List Plan × Int × Int × Int × List Int), (0 = 0) ∧ (v_9.fst = v_9.fst) ∧ (oneV (8 : Int) b = oneV (8 : Int) b) ∧ ((↑v_9.fst : Int) = (↑v_9.fst : Int)) ∧ (v_35.snd.snd.snd.snd.snd.snd.fst = v'.snd.snd.snd.snd.snd.snd.fst) ∧ (n60 = (↑v'.fst : Int)) ∧ (r_51 = v'.snd.snd.fst) ∧ (bd_52 = v'.snd.fst) ∧ (v_35.snd.snd.snd.fst = v'.snd.snd.snd.fst) ∧ (z58 = v'.snd.snd.snd.snd.snd.snd.snd) ∧ (v_35.snd.snd.snd.snd.fst = v'.snd.snd.snd.snd.fst) ∧ (v_35.snd.snd.snd.snd.snd.fst = v'.snd.snd.snd.snd.snd.fst) ∧ (0 = 0) ∧ (v_35.fst + 1 = v'.fst) ∧ ((v'.fst ≤ v'.snd.snd.snd.snd.snd.snd.fst.toNat) ∧ ((0 ≤ v'.snd.snd.snd.snd.snd.snd.fst) ∧ (v'.snd.snd.snd.snd.snd.snd.fst ≤ (8 : Int))) ∧ (v_9.fst < (oneV (8 : Int) b).toNat) ∧ ((0 ≤ oneV (8 : Int) b) ∧ (oneV (8 : Int) b ≤ 8)) ∧ (b.length ≤ 1000000) ∧ (v'.snd.snd.fst.length ≤ b.length) ∧ (v'.snd.snd.snd.fst.length = v_9.fst) ∧ ((0 ≤ v'.snd.snd.snd.snd.fst) ∧ (v'.snd.snd.snd.snd.fst ≤ (1048576 : Int))) ∧ ((0 ≤ v'.snd.snd.snd.snd.snd.fst) ∧ (v'.snd.snd.snd.snd.snd.fst ≤ (1048576 : Int))) ∧ (v'.snd.snd.snd.snd.snd.snd.snd.length = v'.fst) ∧ (PB b v_9.fst v'.snd.snd.snd.snd.fst v'.snd.snd.snd.snd.snd.fst v'.snd.snd.snd.snd.snd.snd.fst v'.fst v'.snd.fst v'.snd.snd.fst v'.snd.snd.snd.fst v'.snd.snd.snd.snd.snd.snd.snd)) ∧ (v'.snd.snd.snd.snd.snd.snd.fst.toNat - v'.fst < v_35.snd.snd.snd.snd.snd.snd.fst.toNat - v_35.fst)) ∧ (((0 : Int) ≤ (1048576 : Int)) ∧ ((1048576 : Int) ≤ (9223372036854775807 : Int))) ∧ (v_35.snd.snd.fst.length ≤ 1000000) ∧ ∀ (v_63 : Int), ∀ (r_64 : List UInt8), ∀ (bd_65 : Bool), (v_63 = oneV (1048576 : Int) v_35.snd.snd.fst) → (r_64 = oneR (1048576 : Int) v_35.snd.snd.fst) → (bd_65 = (v_35.snd.fst || oneB (1048576 : Int) v_35.snd.snd.fst)) → (0 ≤ v_63 ∧ v_63 ≤ 1048576) → (r_64.length ≤ v_35.snd.snd.fst.length) → ((v_35.fst + 1) * 8 ≤ 140737488355328) ∧ ∀ (z71 : List Int), (z71 = List.take v_35.fst v_35.snd.snd.snd.snd.snd.snd.snd ++ List.take 1 (List.drop 0 [v_63])) → ∀ (n73 : Int), (n73 = IntKind.i64.wrap ((↑v_35.fst : Int) + (1 : Int))) → (inK .i64 n73) → ∃ (v' : Nat × Bool × List UInt8 × List Plan × Int × Int × Int × List Int), (0 = 0) ∧ (v_9.fst = v_9.fst) ∧ (oneV (8 : Int) b = oneV (8 : Int) b) ∧ ((↑v_9.fst : Int) = (↑v_9.fst : Int)) ∧ (v_35.snd.snd.snd.snd.snd.snd.fst = v'.snd.snd.snd.snd.snd.snd.fst) ∧ (n73 = (↑v'.fst : Int)) ∧ (r_64 = v'.snd.snd.fst) ∧ (bd_65 = v'.snd.fst) ∧ (v_35.snd.snd.snd.fst = v'.snd.snd.snd.fst) ∧ (z71 = v'.snd.snd.snd.snd.snd.snd.snd) ∧ (v_35.snd.snd.snd.snd.fst = v'.snd.snd.snd.snd.fst) ∧ (v_35.snd.snd.snd.snd.snd.fst = v'.snd.snd.snd.snd.snd.fst) ∧ (0 = 0) ∧ (v_35.fst + 1 = v'.fst) ∧ ((v'.fst ≤ v'.snd.snd.snd.snd.snd.snd.fst.toNat) ∧ ((0 ≤ v'.snd.snd.snd.snd.snd.snd.fst) ∧ (v'.snd.snd.snd.snd.snd.snd.fst ≤ (8 : Int))) ∧ (v_9.fst < (oneV (8 : Int) b).toNat) ∧ ((0 ≤ oneV (8 : Int) b) ∧ (oneV (8 : Int) b ≤ 8)) ∧ (b.length ≤ 1000000) ∧ (v'.snd.snd.fst.length ≤ b.length) ∧ (v'.snd.snd.snd.fst.length = v_9.fst) ∧ ((0 ≤ v'.snd.snd.snd.snd.fst) ∧ (v'.snd.snd.snd.snd.fst ≤ (1048576 : Int))) ∧ ((0 ≤ v'.snd.snd.snd.snd.snd.fst) ∧ (v'.snd.snd.snd.snd.snd.fst ≤ (1048576 : Int))) ∧ (v'.snd.snd.snd.snd.snd.snd.snd.length = v'.fst) ∧ (PB b v_9.fst v'.snd.snd.snd.snd.fst v'.snd.snd.snd.snd.snd.fst v'.snd.snd.snd.snd.snd.snd.fst v'.fst v'.snd.fst v'.snd.snd.fst v'.snd.snd.snd.fst v'.snd.snd.snd.snd.snd.snd.snd)) ∧ (v'.snd.snd.snd.snd.snd.snd.fst.toNat - v'.fst < v_35.snd.snd.snd.snd.snd.snd.fst.toNat - v_35.fst)) (((v_9.fst + 1) * 40 ≤ 140737488355328) ∧ ∀ (z76 : List Plan), (z76 = List.take v_9.fst v_35.snd.snd.snd.fst ++ List.take 1 (List.drop 0 [{ cycle := v_35.snd.snd.snd.snd.fst, offset := v_35.snd.snd.snd.snd.snd.fst, splits := List.take v_35.fst (List.drop 0 v_35.snd.snd.snd.snd.snd.snd.snd) : Plan }])) → ∀ (n78 : Int), (n78 = IntKind.i64.wrap ((↑v_9.fst : Int) + (1 : Int))) → (inK .i64 n78) → ∃ (v' : Nat × Bool × List UInt8 × List Plan), (0 = 0) ∧ (v_9.fst + 1 = v'.fst) ∧ (oneV (8 : Int) b = oneV (8 : Int) b) ∧ (n78 = (↑v'.fst : Int)) ∧ (v_35.snd.snd.fst = v'.snd.snd.fst) ∧ (v_35.snd.fst = v'.snd.fst) ∧ (z76 = v'.snd.snd.snd) ∧ ((v'.fst ≤ (oneV (8 : Int) b).toNat) ∧ ((0 ≤ oneV (8 : Int) b) ∧ (oneV (8 : Int) b ≤ 8)) ∧ (b.length ≤ 1000000) ∧ (v'.snd.snd.fst.length ≤ b.length) ∧ (v'.snd.snd.snd.length = v'.fst) ∧ (PIn b v'.fst v'.snd.fst v'.snd.snd.fst v'.snd.snd.snd)) ∧ ((oneV (8 : Int) b).toNat - v'.fst < (oneV (8 : Int) b).toNat - v_9.fst))) ((k (.row 10 1 0 v_9.fst) [some (.cells [.sl 0 v_9.snd.snd.fst, .bool v_9.snd.fst])] [.row 10 v_9.snd.snd.snd])) := by
 refine ⟨by first | omega | (dsimp only; omega), by assumption, ?_⟩
 intro v_1 r_2 bd_3 h1 h2 h3
 simp at h3
 intro ⟨a4, b4⟩ h5
 refine ⟨?_, ?_⟩
 ·
  refine ⟨((0 : Nat), bd_3, r_2, []), rfl, rfl, by show v_1 = oneV (8 : Int) b; assumption, by show (0 : Int) = (↑(0 : Nat) : Int); omega, rfl, rfl, rfl, by show (0 : Nat) ≤ (oneV (8 : Int) b).toNat; omega, by first | omega | (dsimp only; omega), by show b.length ≤ (1000000 : Nat); assumption, by show r_2.length ≤ b.length; assumption, rfl, ?_⟩
  exact pin_0 (by rw [Bool.false_or]; exact h3) h2
 intro v_9 h6
 refine br_intro (fun c7 => ?_) (fun c7 => ?_)
 ·
  simp at c7
  refine ⟨by first | omega | (dsimp only; omega), by first | omega | (dsimp only; omega), ?_⟩
  intro v_11 r_12 bd_13 h8 h9 h10 ⟨a11, b11⟩ h12
  refine ⟨by first | omega | (dsimp only; omega), by first | omega | (dsimp only; omega), ?_⟩
  intro v_19 r_20 bd_21 h13 h14 h15 ⟨a16, b16⟩ h17
  refine ⟨by first | omega | (dsimp only; omega), by first | omega | (dsimp only; omega), ?_⟩
  intro v_27 r_28 bd_29 h18 h19 h20 ⟨a21, b21⟩ h22
  refine ⟨?_, ?_⟩
  ·
   refine ⟨((0 : Nat), bd_29, r_28, v_9.snd.snd.snd, v_11, v_19, v_27, []), rfl, rfl, rfl, rfl, rfl, by show (0 : Int) = (↑(0 : Nat) : Int); omega, rfl, rfl, rfl, rfl, rfl, rfl, rfl, rfl, by show (0 : Nat) ≤ v_27.toNat; omega, by exact ⟨by assumption, by assumption⟩, by show v_9.fst < (oneV (8 : Int) b).toNat; omega, by first | omega | (dsimp only; omega), by show b.length ≤ (1000000 : Nat); assumption, by show r_28.length ≤ b.length; omega, by show v_9.snd.snd.snd.length = v_9.fst; omega, by exact ⟨by assumption, by assumption⟩, by exact ⟨by assumption, by assumption⟩, rfl, ?_⟩
   exact pb_0 h6.2.2.2.2.2 h8 h9 h10 h13 h14 h15 h18 h19 h20
  intro v_35 h23
  refine br_intro (fun c24 => ?_) (fun c24 => ?_)
  ·
   simp at c24
   refine ⟨?_, ?_⟩
   ·
    refine ⟨?_, ?_⟩
    ·
     refine ⟨by first | omega | (dsimp only; omega), by first | omega | (dsimp only; omega), ?_⟩
     intro v_37 r_38 bd_39 h25 h26 h27 ⟨a28, b28⟩ h29
     refine ⟨by first | omega | (dsimp only; omega), ?_⟩
     intro z45 qz45 n47 q47
     rw [IntKind.wrap_i64] at q47
     intro ⟨l47, u47⟩
     refine ⟨(v_35.fst + (1 : Nat), bd_39, r_38, v_35.snd.snd.snd.fst, v_35.snd.snd.snd.snd.fst, v_35.snd.snd.snd.snd.snd.fst, v_35.snd.snd.snd.snd.snd.snd.fst, z45), rfl, rfl, rfl, rfl, rfl, by show n47 = (↑(v_35.fst + (1 : Nat)) : Int); omega, rfl, rfl, rfl, rfl, rfl, rfl, rfl, rfl, ?_⟩
     refine ⟨?_, ?_⟩
     ·
      refine ⟨by show v_35.fst + (1 : Nat) ≤ v_35.snd.snd.snd.snd.snd.snd.fst.toNat; omega, by first | omega | (dsimp only; omega), by show v_9.fst < (oneV (8 : Int) b).toNat; omega, by first | omega | (dsimp only; omega), by show b.length ≤ (1000000 : Nat); assumption, by show r_38.length ≤ b.length; omega, by show v_35.snd.snd.snd.fst.length = v_9.fst; omega, by first | omega | (dsimp only; omega), by first | omega | (dsimp only; omega), ?_⟩
      have h30 : z45.length = v_35.fst + (1 : Nat) := by
       exact (z_app qz45 h23.2.2.2.2.2.2.2.2.2.1).2
      refine ⟨h30, ?_⟩
      exact pb_step h23.2.2.2.2.2.2.2.2.2.2 (by have c := c24.1; dsimp only; omega) h25 h26 h27 (z_app qz45 h23.2.2.2.2.2.2.2.2.2.1).1
     exact by show v_35.snd.snd.snd.snd.snd.snd.fst.toNat - (v_35.fst + (1 : Nat)) < v_35.snd.snd.snd.snd.snd.snd.fst.toNat - v_35.fst; omega
    refine ⟨by first | omega | (dsimp only; omega), by first | omega | (dsimp only; omega), ?_⟩
    intro v_50 r_51 bd_52 h31 h32 h33 ⟨a34, b34⟩ h35
    refine ⟨by first | omega | (dsimp only; omega), ?_⟩
    intro z58 qz58 n60 q60
    rw [IntKind.wrap_i64] at q60
    intro ⟨l60, u60⟩
    refine ⟨(v_35.fst + (1 : Nat), bd_52, r_51, v_35.snd.snd.snd.fst, v_35.snd.snd.snd.snd.fst, v_35.snd.snd.snd.snd.snd.fst, v_35.snd.snd.snd.snd.snd.snd.fst, z58), rfl, rfl, rfl, rfl, rfl, by show n60 = (↑(v_35.fst + (1 : Nat)) : Int); omega, rfl, rfl, rfl, rfl, rfl, rfl, rfl, rfl, ?_⟩
    refine ⟨?_, ?_⟩
    ·
     refine ⟨by show v_35.fst + (1 : Nat) ≤ v_35.snd.snd.snd.snd.snd.snd.fst.toNat; omega, by first | omega | (dsimp only; omega), by show v_9.fst < (oneV (8 : Int) b).toNat; omega, by first | omega | (dsimp only; omega), by show b.length ≤ (1000000 : Nat); assumption, by show r_51.length ≤ b.length; omega, by show v_35.snd.snd.snd.fst.length = v_9.fst; omega, by first | omega | (dsimp only; omega), by first | omega | (dsimp only; omega), ?_⟩
     have h36 : z58.length = v_35.fst + (1 : Nat) := by
      exact (z_app qz58 h23.2.2.2.2.2.2.2.2.2.1).2
     refine ⟨h36, ?_⟩
     exact pb_step h23.2.2.2.2.2.2.2.2.2.2 (by have c := c24.1; dsimp only; omega) h31 h32 h33 (z_app qz58 h23.2.2.2.2.2.2.2.2.2.1).1
    exact by show v_35.snd.snd.snd.snd.snd.snd.fst.toNat - (v_35.fst + (1 : Nat)) < v_35.snd.snd.snd.snd.snd.snd.fst.toNat - v_35.fst; omega
   refine ⟨by first | omega | (dsimp only; omega), by first | omega | (dsimp only; omega), ?_⟩
   intro v_63 r_64 bd_65 h37 h38 h39 ⟨a40, b40⟩ h41
   refine ⟨by first | omega | (dsimp only; omega), ?_⟩
   intro z71 qz71 n73 q73
   rw [IntKind.wrap_i64] at q73
   intro ⟨l73, u73⟩
   refine ⟨(v_35.fst + (1 : Nat), bd_65, r_64, v_35.snd.snd.snd.fst, v_35.snd.snd.snd.snd.fst, v_35.snd.snd.snd.snd.snd.fst, v_35.snd.snd.snd.snd.snd.snd.fst, z71), rfl, rfl, rfl, rfl, rfl, by show n73 = (↑(v_35.fst + (1 : Nat)) : Int); omega, rfl, rfl, rfl, rfl, rfl, rfl, rfl, rfl, ?_⟩
   refine ⟨?_, ?_⟩
   ·
    refine ⟨by show v_35.fst + (1 : Nat) ≤ v_35.snd.snd.snd.snd.snd.snd.fst.toNat; omega, by first | omega | (dsimp only; omega), by show v_9.fst < (oneV (8 : Int) b).toNat; omega, by first | omega | (dsimp only; omega), by show b.length ≤ (1000000 : Nat); assumption, by show r_64.length ≤ b.length; omega, by show v_35.snd.snd.snd.fst.length = v_9.fst; omega, by first | omega | (dsimp only; omega), by first | omega | (dsimp only; omega), ?_⟩
    have h42 : z71.length = v_35.fst + (1 : Nat) := by
     exact (z_app qz71 h23.2.2.2.2.2.2.2.2.2.1).2
    refine ⟨h42, ?_⟩
    exact pb_step h23.2.2.2.2.2.2.2.2.2.2 (by have c := c24.1; dsimp only; omega) h37 h38 h39 (z_app qz71 h23.2.2.2.2.2.2.2.2.2.1).1
   exact by show v_35.snd.snd.snd.snd.snd.snd.fst.toNat - (v_35.fst + (1 : Nat)) < v_35.snd.snd.snd.snd.snd.snd.fst.toNat - v_35.fst; omega
  simp at c24
  refine ⟨by first | omega | (dsimp only; omega), ?_⟩
  intro z76 qz76 n78 q78
  rw [IntKind.wrap_i64] at q78
  intro ⟨l78, u78⟩
  refine ⟨(v_9.fst + (1 : Nat), v_35.snd.fst, v_35.snd.snd.fst, z76), rfl, rfl, rfl, by show n78 = (↑(v_9.fst + (1 : Nat)) : Int); omega, rfl, rfl, rfl, ?_⟩
  refine ⟨?_, ?_⟩
  ·
   refine ⟨by show v_9.fst + (1 : Nat) ≤ (oneV (8 : Int) b).toNat; omega, by first | omega | (dsimp only; omega), by show b.length ≤ (1000000 : Nat); assumption, by show v_35.snd.snd.fst.length ≤ b.length; omega, ?_⟩
   have h43 : z76.length = v_9.fst + (1 : Nat) := by
    exact (pl_app qz76 h23.2.2.2.2.2.2.1 h23.2.2.2.2.2.2.2.2.2.1).2
   refine ⟨h43, ?_⟩
   exact pb_end h23.2.2.2.2.2.2.2.2.2.2 h23.2.2.1 (fun e => by have c := c24; rw [e] at c; simp at c; omega) (pl_app qz76 h23.2.2.2.2.2.2.1 h23.2.2.2.2.2.2.2.2.2.1).1
  exact by show (oneV (8 : Int) b).toNat - (v_9.fst + (1 : Nat)) < (oneV (8 : Int) b).toNat - v_9.fst; omega
 simp at c7
 refine hk _ _ _ _ (fun e => ?_) (fun e => h6.2.2.2.2.2.no e) h6.2.2.2.2.1 (by omega) h6.2.2.2.1
 have e : v_9.fst = (oneV 8 b).toNat := by
  have c := c7
  rw [e] at c; simp at c; omega
 have t := h6.2.2.2.2.2
 rw [e] at t
 exact t
theorem rplans_ok : Holds Try.prog 80 rplansS := by
  refine fn_soundB (env := mkEnv K2r) (tab_ok K2r_ok) Try.func80 Try.call80 (fun args B k h => ?_) (by decide)
  unfold rplansS at h
  dsimp only at h
  split at h
  · rename_i b
    exact ⟨by kernel_rfl, rplansLoops b, fun _ _ => none, .cast (by kernel_rfl) (rplans_vc b h.1 k h.2)⟩
  · exact h.elim
end Go.Proofs.Ytcdflgfhkohldaa
