import Derived.Test.YtcdflgfhkohldaaStD
namespace Go.Proofs.Ytcdflgfhkohldaa
open Go Go.Eng Go.Rw Go.Lk Go.Proofs
open Go.Bk hiding take_step drop_step set_mid
open Go.St hiding take_step
set_option linter.unusedVariables false
set_option maxHeartbeats 2000000 in
theorem rsmall_vc (n : Int) (n0 : 0 ≤ n) (n1 : n ≤ 18446744073709551615) (k : AV → List (Option Blk) → List Blk → Prop) (hk : ∀ (ys : List UInt8) (q : Nat), ys = smallL n.toNat → ys.length = q → q ≤ 10 → k (.row 0 0 0 q) [] [.row 0 ys]) : (∃ (v : Nat × Nat × List UInt8), (n = (↑v.fst : Int)) ∧ (0 = 0) ∧ (0 = v.snd.fst) ∧ ([] = v.snd.snd) ∧ (v.snd.snd.length = v.snd.fst) ∧ (v.snd.fst < 10) ∧ (v.fst < 2 ^ (64 - 7 * v.snd.fst)) ∧ (v.snd.snd ++ smallF (10 - v.snd.fst) v.fst = smallL n.toNat)) ∧ ∀ (v_1 : Nat × Nat × List UInt8), (v_1.snd.snd.length = v_1.snd.fst ∧ v_1.snd.fst < 10 ∧ v_1.fst < 2 ^ (64 - 7 * v_1.snd.fst) ∧ v_1.snd.snd ++ smallF (10 - v_1.snd.fst) v_1.fst = smallL n.toNat) → br (decide ((↑v_1.fst : Int) ≥ (128 : Int))) (((128 : Int) ≠ (0 : Int)) ∧ ∀ (n3 : Int), (n3 = (↑v_1.fst : Int).tmod (128 : Int)) → (inK .u64 n3) → ∀ (n6 : Int), (n6 = IntKind.u8.wrap n3) → (inK .u8 n6) → ∀ (n9 : Int), (n9 = IntKind.u8.wrap (n6 + 128)) → (inK .u8 n9) → ((v_1.snd.fst + 1) * 1 ≤ 140737488355328) ∧ ∀ (z12 : List UInt8), (z12 = List.take v_1.snd.fst v_1.snd.snd ++ List.take 1 (List.drop 0 [UInt8.ofNat n9.toNat])) → ((128 : Int) ≠ (0 : Int)) ∧ ∀ (n14 : Int), (n14 = IntKind.u64.wrap ((↑v_1.fst : Int).tdiv (128 : Int))) → (inK .u64 n14) → ∃ (v' : Nat × Nat × List UInt8), (n14 = (↑v'.fst : Int)) ∧ (0 = 0) ∧ (v_1.snd.fst + 1 = v'.snd.fst) ∧ (z12 = v'.snd.snd) ∧ ((v'.snd.snd.length = v'.snd.fst) ∧ (v'.snd.fst < 10) ∧ (v'.fst < 2 ^ (64 - 7 * v'.snd.fst)) ∧ (v'.snd.snd ++ smallF (10 - v'.snd.fst) v'.fst = smallL n.toNat)) ∧ (10 - v'.snd.fst < 10 - v_1.snd.fst)) (∀ (n17 : Int), (n17 = IntKind.u8.wrap (↑v_1.fst : Int)) → (inK .u8 n17) → ((v_1.snd.fst + 1) * 1 ≤ 140737488355328) ∧ ∀ (z20 : List UInt8), (z20 = List.take v_1.snd.fst v_1.snd.snd ++ List.take 1 (List.drop 0 [UInt8.ofNat n17.toNat])) → (k (.row 0 0 0 (v_1.snd.fst + 1)) [] [.row 0 z20])) := by
 refine ⟨?_, ?_⟩
 ·
  refine ⟨(n.toNat, (0 : Nat), []), by show n = (↑n.toNat : Int); omega, rfl, rfl, rfl, rfl, by show (0 : Nat) < (10 : Nat); omega, by show n.toNat < (2 : Nat) ^ ((64 : Nat) - (7 : Nat) * (0 : Nat)); omega, ?_⟩
  exact by rfl
 intro v_1 h1
 refine brd (fun c2 => ?_) (fun c2 => ?_)
 ·
  refine ⟨by first | omega | (dsimp only; omega), ?_⟩
  intro n3 q3
  rw [Int.tmod_eq_emod_of_nonneg (by omega)] at q3
  intro ⟨l3, u3⟩ n6 q6
  rw [IntKind.wrap_u8] at q6
  intro ⟨l6, u6⟩ n9 q9
  rw [IntKind.wrap_u8] at q9
  intro ⟨l9, u9⟩
  refine ⟨by first | omega | (dsimp only; omega), ?_⟩
  intro z12 qz12
  refine ⟨by first | omega | (dsimp only; omega), ?_⟩
  intro n14 q14
  rw [Int.tdiv_eq_ediv_of_nonneg (by omega)] at q14
  rw [IntKind.wrap_u64] at q14
  intro ⟨l14, u14⟩
  refine ⟨(n14.toNat, v_1.snd.fst + (1 : Nat), z12), by show n14 = (↑n14.toNat : Int); omega, rfl, rfl, rfl, ?_⟩
  refine ⟨?_, ?_⟩
  ·
   have h3 : z12.length = v_1.snd.fst + (1 : Nat) := by
    rw [qz12]; simp; omega
   refine ⟨h3, ?_⟩
   have h4 : v_1.snd.fst + (1 : Nat) < (10 : Nat) := by
    have := (small_step v_1.fst v_1.snd.fst h1.2.2.1 (by omega) h1.2.1).1
    omega
   refine ⟨h4, ?_⟩
   have h5 : n14.toNat < (2 : Nat) ^ ((64 : Nat) - (7 : Nat) * (v_1.snd.fst + (1 : Nat))) := by
    have pw : 2 ^ (64 - 7 * v_1.snd.fst) ≤ 2 ^ 64 := Nat.pow_le_pow_right (by decide) (by omega)
    have pw : 2 ^ (64 - 7 * v_1.snd.fst) ≤ 18446744073709551616 := pw
    have t : ((v_1.fst : Int)).tdiv 128 = (v_1.fst : Int) / 128 := Int.tdiv_eq_ediv_of_nonneg (by omega)
    (try rw [t] at q14)
    have := (small_step v_1.fst v_1.snd.fst h1.2.2.1 (by omega) h1.2.1).2
    have e : n14.toNat = v_1.fst / 128 := by omega
    rw [e]; exact this
   refine ⟨h5, ?_⟩
   have pw : 2 ^ (64 - 7 * v_1.snd.fst) ≤ 2 ^ 64 := Nat.pow_le_pow_right (by decide) (by omega)
   have pw : 2 ^ (64 - 7 * v_1.snd.fst) ≤ 18446744073709551616 := pw
   have t : ((v_1.fst : Int)).tdiv 128 = (v_1.fst : Int) / 128 := Int.tdiv_eq_ediv_of_nonneg (by omega)
   (try rw [t] at q14)
   have u : ((v_1.fst : Int)).tmod 128 = (v_1.fst : Int) % 128 := Int.tmod_eq_emod_of_nonneg (by omega)
   (try rw [u] at q3)
   have e5 : n14.toNat = v_1.fst / 128 := by omega
   have e3 : n9.toNat = v_1.fst % 128 + 128 := by omega
   rw [← h1.2.2.2, e5, qz12, e3, List.take_of_length_le (by omega)]
   have e : 10 - v_1.snd.fst = (10 - (v_1.snd.fst + 1)) + 1 := by omega
   rw [e]
   have hF : smallF (10 - (v_1.snd.fst + 1) + 1) v_1.fst = UInt8.ofNat (v_1.fst % 128 + 128) :: smallF (10 - (v_1.snd.fst + 1)) (v_1.fst / 128) := by
    rw [smallF, if_neg (by omega)]
   rw [hF]
   simp
  exact by show (10 : Nat) - (v_1.snd.fst + (1 : Nat)) < (10 : Nat) - v_1.snd.fst; omega
 intro n17 q17
 rw [IntKind.wrap_u8] at q17
 intro ⟨l17, u17⟩
 refine ⟨by first | omega | (dsimp only; omega), ?_⟩
 intro z20 qz20
 have e : 10 - v_1.snd.fst = (9 - v_1.snd.fst) + 1 := by omega
 have hF : smallF (10 - v_1.snd.fst) v_1.fst = [UInt8.ofNat v_1.fst] := by
  rw [e, smallF, if_pos (by omega)]
 have pw : 2 ^ (64 - 7 * v_1.snd.fst) ≤ 2 ^ 64 := Nat.pow_le_pow_right (by decide) (by omega)
 have pw : 2 ^ (64 - 7 * v_1.snd.fst) ≤ 18446744073709551616 := pw
 have e6 : n17.toNat = v_1.fst := by omega
 exact hk z20 (v_1.snd.fst + 1) (by rw [qz20, ← h1.2.2.2, hF, e6, List.take_of_length_le (by omega)]; simp) (by rw [qz20]; simp; omega) (by omega)
theorem rsmall_ok : Holds Try.prog 38 smallS := by
  refine fn_sound (env := mkEnv T0) (tab_ok T0_ok) Try.func38 Try.call38 fun args k h => ?_
  match args, h with
  | [.int .u64 n], h => exact ⟨by kernel_rfl, rsmallLoops n, fun _ _ => none, .cast (by kernel_rfl) (rsmall_vc n h.1.1 h.1.2 k h.2)⟩
set_option maxHeartbeats 2000000 in
theorem rread_vc (xs : List UInt8) (hxs : xs.length ≤ 1000000) (k : AV → List (Option Blk) → List Blk → Prop) (hk : ∀ (a b c : Int), a = (↑(readG 0 0 xs).fst : Int) → b = (↑(readG 0 0 xs).snd.fst : Int) → c = (↑(readG 0 0 xs).snd.snd : Int) → 0 ≤ a ∧ a ≤ 18446744073709551615 → 0 ≤ b ∧ b ≤ 10 → c = 0 ∨ c = 8 → k (.tup [.int .u64 a, .int .i64 b, .int .i64 c]) [] []) : (∃ (v : Nat), (xs = xs) ∧ ((0 : Int) = (↑v : Int)) ∧ (v ≤ xs.length) ∧ (v ≤ 10) ∧ (hiS xs v)) ∧ ∀ (v_1 : Nat), (v_1 ≤ xs.length ∧ v_1 ≤ 10 ∧ hiS xs v_1) → ∀ (n3 : Int), (n3 = (↑xs.length : Int)) → (inK .i64 n3) → (((bif decide ((↑v_1 : Int) < n3) then decide ((↑v_1 : Int) < (10 : Int)) else false) = true) → ((0 : Int) ≤ (↑v_1 : Int)) ∧ ((↑v_1 : Int) < (↑xs.length : Int))) ∧ ∀ (n7 : Int), (n7 = (↑(xs.getD (↑v_1 : Int).toNat (0 : UInt8)).toNat : Int)) → br (bif bif decide ((↑v_1 : Int) < n3) then decide ((↑v_1 : Int) < (10 : Int)) else false then decide (n7 ≥ 128) else false) (∀ (n9 : Int), (n9 = IntKind.i64.wrap ((↑v_1 : Int) + (1 : Int))) → (inK .i64 n9) → ∃ (v' : Nat), (xs = xs) ∧ (n9 = (↑v' : Int)) ∧ ((v' ≤ xs.length) ∧ (v' ≤ 10) ∧ (hiS xs v')) ∧ (10 - v' < 10 - v_1)) (∀ (n12 : Int), (n12 = (↑xs.length : Int)) → (inK .i64 n12) → ((((↑v_1 : Int) == (9 : Int)) = true ∧ (bif decide ((↑v_1 : Int) ≥ n12) then true else decide ((↑v_1 : Int) ≥ (10 : Int))) = false) → ((0 : Int) ≤ (9 : Int)) ∧ ((9 : Int) < (↑xs.length : Int))) ∧ ∀ (n15 : Int), (n15 = (↑(xs.getD (Int.toNat (9 : Int)) (0 : UInt8)).toNat : Int)) → ((decide ((↑v_1 : Int) > (0 : Int)) = true ∧ (bif bif decide ((↑v_1 : Int) ≥ n12) then true else decide ((↑v_1 : Int) ≥ (10 : Int)) then true else bif (↑v_1 : Int) == (9 : Int) then decide (n15 > 1) else false) = false) → ((0 : Int) ≤ (↑v_1 : Int)) ∧ ((↑v_1 : Int) < (↑xs.length : Int))) ∧ ∀ (n18 : Int), (n18 = (↑(xs.getD (↑v_1 : Int).toNat (0 : UInt8)).toNat : Int)) → br (bif bif bif decide ((↑v_1 : Int) ≥ n12) then true else decide ((↑v_1 : Int) ≥ (10 : Int)) then true else bif (↑v_1 : Int) == (9 : Int) then decide (n15 > 1) else false then true else bif decide ((↑v_1 : Int) > (0 : Int)) then n18 == 0 else false) ((k (.tup [.int .u64 0, .int .i64 0, .int .i64 8]) [] [])) ((∃ (v : Nat × Int × Int), (xs = xs) ∧ ((↑v_1 : Int) = (↑v.fst : Int)) ∧ (0 = v.snd.snd) ∧ ((↑v_1 : Int) = v.snd.fst) ∧ (v.fst < xs.length) ∧ (v.fst ≤ 9) ∧ (okR xs v.fst) ∧ ((-1 ≤ v.snd.fst) ∧ (v.snd.fst ≤ (↑v.fst : Int))) ∧ (v.snd.snd = (↑(valL (List.drop (v.snd.fst + 1).toNat (List.take (v.fst + 1) xs))) : Int))) ∧ ∀ (v_20 : Nat × Int × Int), (v_20.fst < xs.length ∧ v_20.fst ≤ 9 ∧ okR xs v_20.fst ∧ (-1 ≤ v_20.snd.fst ∧ v_20.snd.fst ≤ (↑v_20.fst : Int)) ∧ v_20.snd.snd = (↑(valL (List.drop (v_20.snd.fst + 1).toNat (List.take (v_20.fst + 1) xs))) : Int)) → br (decide (v_20.snd.fst ≥ 0)) (∀ (n22 : Int), (n22 = IntKind.u64.wrap (v_20.snd.snd * (128 : Int))) → (inK .u64 n22) → (0 ≤ v_20.snd.fst) ∧ (v_20.snd.fst < (↑xs.length : Int)) ∧ ∀ (n25 : Int), (n25 = (↑(xs.getD v_20.snd.fst.toNat (0 : UInt8)).toNat : Int)) → (inK .u8 n25) → ((128 : Int) ≠ (0 : Int)) ∧ ∀ (n28 : Int), (n28 = n25.tmod (128 : Int)) → (inK .u8 n28) → ∀ (n31 : Int), (n31 = IntKind.u64.wrap n28) → (inK .u64 n31) → ∀ (n34 : Int), (n34 = IntKind.u64.wrap (n22 + n31)) → (inK .u64 n34) → ∀ (n37 : Int), (n37 = IntKind.i64.wrap (v_20.snd.fst - 1)) → (inK .i64 n37) → ∃ (v' : Nat × Int × Int), (xs = xs) ∧ ((↑v_20.fst : Int) = (↑v'.fst : Int)) ∧ (n34 = v'.snd.snd) ∧ (n37 = v'.snd.fst) ∧ ((v'.fst < xs.length) ∧ (v'.fst ≤ 9) ∧ (okR xs v'.fst) ∧ ((-1 ≤ v'.snd.fst) ∧ (v'.snd.fst ≤ (↑v'.fst : Int))) ∧ (v'.snd.snd = (↑(valL (List.drop (v'.snd.fst + (1 : Int)).toNat (List.take (v'.fst + 1) xs))) : Int))) ∧ ((v'.snd.fst + (1 : Int)).toNat < (v_20.snd.fst + 1).toNat)) (∀ (n40 : Int), (n40 = IntKind.i64.wrap ((↑v_20.fst : Int) + (1 : Int))) → (inK .i64 n40) → (k (.tup [.int .u64 v_20.snd.snd, .int .i64 n40, .int .i64 0]) [] [])))) := by
 refine ⟨?_, ?_⟩
 ·
  refine ⟨Int.toNat (0 : Int), rfl, by show (0 : Int) = (↑(Int.toNat (0 : Int)) : Int); omega, by show Int.toNat (0 : Int) ≤ xs.length; omega, by show Int.toNat (0 : Int) ≤ (10 : Nat); omega, ?_⟩
  exact ⟨fun j hj => absurd hj (Nat.not_lt_zero _)⟩
 intro v_1 h1 n3 q3 ⟨l3, u3⟩
 refine ⟨?_, ?_⟩
 ·
  intro h2
  simp at h2
  refine ⟨by first | omega | (dsimp only; omega), ?_⟩
  exact by omega
 intro n7 q7
 refine br_intro (fun c3 => ?_) (fun c3 => ?_)
 ·
  simp at c3
  intro n9 q9
  rw [IntKind.wrap_i64] at q9
  intro ⟨l9, u9⟩
  refine ⟨n9.toNat, rfl, by show n9 = (↑n9.toNat : Int); omega, ?_⟩
  refine ⟨?_, ?_⟩
  ·
   refine ⟨by show n9.toNat ≤ xs.length; omega, by show n9.toNat ≤ (10 : Nat); omega, ?_⟩
   refine ⟨fun j hj => ?_⟩
   by_cases e : j = v_1
   ·
    subst e
    have t := c3.2
    rw [q7, Int.toNat_natCast] at t
    omega
   exact h1.2.2.out j (by omega)
  exact by show (10 : Nat) - n9.toNat < (10 : Nat) - v_1; omega
 simp at c3
 intro n12 q12 ⟨l12, u12⟩
 refine ⟨?_, ?_⟩
 ·
  intro ⟨a4, b4⟩
  simp at a4
  simp at b4
  refine ⟨by first | omega | (dsimp only; omega), ?_⟩
  exact by omega
 intro n15 q15
 refine ⟨?_, ?_⟩
 ·
  intro ⟨l15, u15⟩
  simp at l15
  simp at u15
  refine ⟨by first | omega | (dsimp only; omega), ?_⟩
  exact by omega
 intro n18 q18
 refine br_intro (fun c5 => ?_) (fun c5 => ?_)
 ·
  simp at c5
  have e18 : n18 = (((xs.getD v_1 0).toNat : Nat) : Int) := by rw [q18, Int.toNat_natCast]
  have e15 : v_1 = 9 → n15 = (((xs.getD v_1 0).toNat : Nat) : Int) := fun h => by rw [q15, h]; rfl
  have R := read_bad v_1 0 0 xs (by omega) h1.1 h1.2.2.out (by omega) (by omega)
  exact hk 0 0 8 (by rw [R]; rfl) (by rw [R]; rfl) (by rw [R]; rfl) (by omega) (by omega) (.inr rfl)
 simp at c5
 refine ⟨?_, ?_⟩
 ·
  refine ⟨(v_1, (↑v_1 : Int), (0 : Int)), rfl, rfl, rfl, rfl, by show v_1 < xs.length; omega, by show v_1 ≤ (9 : Nat); omega, ?_⟩
  have h6 : okR xs v_1 := by
   have e7 : n7 = (((xs.getD v_1 0).toNat : Nat) : Int) := by rw [q7, Int.toNat_natCast]
   have e18 : n18 = (((xs.getD v_1 0).toNat : Nat) : Int) := by rw [q18, Int.toNat_natCast]
   have e15 : v_1 = 9 → n15 = (((xs.getD v_1 0).toNat : Nat) : Int) := fun h => by rw [q15, h]; rfl
   have t := c3 (by omega) (by omega)
   exact ⟨h1.2.2.out, by omega, fun ⟨a, b⟩ => by have := e15 a; have := c5.1.2 (by omega); omega, fun ⟨a, b⟩ => by have := c5.2 a; omega⟩
  refine ⟨h6, by first | omega | (dsimp only; omega), ?_⟩
  rw [show ((v_1 : Int) + 1).toNat = v_1 + 1 by omega, List.drop_eq_nil_of_le (by simp; omega)]; rfl
 intro v_20 h7
 refine brd (fun c8 => ?_) (fun c8 => ?_)
 ·
  intro n22 q22
  rw [IntKind.wrap_u64] at q22
  intro ⟨l22, u22⟩
  refine ⟨by assumption, by first | omega | (dsimp only; omega), ?_⟩
  intro n25 q25 ⟨l25, u25⟩
  refine ⟨by first | omega | (dsimp only; omega), ?_⟩
  intro n28 q28
  rw [Int.tmod_eq_emod_of_nonneg (by omega)] at q28
  intro ⟨l28, u28⟩ n31 q31
  rw [IntKind.wrap_u64] at q31
  intro ⟨l31, u31⟩ n34 q34
  rw [IntKind.wrap_u64] at q34
  intro ⟨l34, u34⟩ n37 q37
  rw [IntKind.wrap_i64] at q37
  intro ⟨l37, u37⟩
  refine ⟨(v_20.fst, n37, n34), rfl, rfl, rfl, rfl, ?_⟩
  refine ⟨?_, ?_⟩
  ·
   refine ⟨by show v_20.fst < xs.length; omega, by show v_20.fst ≤ (9 : Nat); omega, ?_⟩
   have h9 : okR xs v_20.fst := by
    exact h7.2.2.1
   refine ⟨h9, by first | omega | (dsimp only; omega), ?_⟩
   have room := val_room h7.2.2.1 h7.1 h7.2.1 (v_20.fst + 1 - v_20.snd.fst.toNat) v_20.snd.fst.toNat (by omega)
   have p : 2 ^ (64 - 7 * v_20.snd.fst.toNat) ≤ 2 ^ 64 := Nat.pow_le_pow_right (by decide) (by omega)
   have p : 2 ^ (64 - 7 * v_20.snd.fst.toNat) ≤ 18446744073709551616 := p
   have d := valL_drop (xs := List.take (v_20.fst + 1) xs) (j := v_20.snd.fst.toNat) (by simp; omega)
   rw [take_get (by omega)] at d
   have t := h7.2.2.2.2
   rw [show (v_20.snd.fst + 1).toNat = v_20.snd.fst.toNat + 1 by omega] at t
   rw [show (n37 + 1).toNat = v_20.snd.fst.toNat by omega]
   rw [d] at room
   rw [d]
   generalize valL (List.drop (v_20.snd.fst.toNat + 1) (List.take (v_20.fst + 1) xs)) = A at room t ⊢
   generalize (xs.getD v_20.snd.fst.toNat 0).toNat = x at room q25 ⊢
   have hb : x % 128 + 128 * A < 18446744073709551616 := Nat.lt_of_lt_of_le room p
   clear room p d h1 c3 c5
   have u : n25.tmod 128 = n25 % 128 := Int.tmod_eq_emod_of_nonneg (by omega)
   have e28 : n28 = ((x % 128 : Nat) : Int) := by omega
   clear q28 u
   have e31 : n31 = n28 := by omega
   clear q31
   have e22 : n22 = v_20.snd.snd * 128 := by omega
   clear q22
   (try dsimp only)
   omega
  exact by show (n37 + (1 : Int)).toNat < (v_20.snd.fst + (1 : Int)).toNat; omega
 intro n40 q40
 rw [IntKind.wrap_i64] at q40
 intro ⟨l40, u40⟩
 have R := read_okR h7.2.2.1 h7.1 h7.2.1
 have t := h7.2.2.2.2
 rw [show (v_20.snd.fst + 1).toNat = 0 by omega, List.drop_zero] at t
 have room := val_room h7.2.2.1 h7.1 h7.2.1 (v_20.fst + 1) 0 (by omega)
 rw [List.drop_zero] at room
 have room : valL (List.take (v_20.fst + 1) xs) < 18446744073709551616 := room
 exact hk _ n40 0 (by rw [R]; exact t) (by rw [R]; show n40 = ((v_20.fst + 1 : Nat) : Int); omega) (by rw [R]; rfl) (by omega) (by omega) (.inl rfl)
theorem rread_ok : Holds Try.prog 72 readS := by
  refine fn_sound (env := mkEnv T0) (tab_ok T0_ok) Try.func72 Try.call72 fun args k h => ?_
  match args, h with
  | [.sl 0 xs], h => exact ⟨by kernel_rfl, rreadLoops xs, fun _ _ => none, .cast (by kernel_rfl) (rread_vc xs h.1 k h.2)⟩
set_option maxHeartbeats 2000000 in
theorem rput_vc (n : Int) (n0 : 0 ≤ n) (n1 : n ≤ 18446744073709551615) (w : Int) (w0 : -9223372036854775808 ≤ w) (w1 : w ≤ 9223372036854775807) (k : AV → List (Option Blk) → List Blk → Prop) (hk : (putOk n w = true → ∀ (ys : List UInt8) (q : Nat), ys = putL n.toNat w.toNat → (↑q : Int) = w → k (.tup [.row 0 0 0 q, .int .i64 0]) [] [.row 0 ys]) ∧ (putOk n w = false → k (.tup [.nilsl, .int .i64 2]) [] [])) : br (bif decide (w < 1) then true else decide (w > 8)) ((k (.tup [.nilsl, .int .i64 2]) [] [])) ((∃ (v : Nat × List UInt8 × Int), (n = v.snd.snd) ∧ (w = w) ∧ (0 = 0) ∧ (0 = v.fst) ∧ ((0 : Int) = (↑v.fst : Int)) ∧ ([] = v.snd.fst) ∧ (v.fst ≤ w.toNat) ∧ (v.snd.fst = putL n.toNat v.fst) ∧ (v.snd.fst.length = v.fst) ∧ (v.snd.snd = (↑(n.toNat / 256 ^ v.fst) : Int)) ∧ (0 ≤ v.snd.snd) ∧ (v.snd.snd ≤ n)) ∧ ∀ (v_1 : Nat × List UInt8 × Int), (v_1.fst ≤ w.toNat ∧ v_1.snd.fst = putL n.toNat v_1.fst ∧ v_1.snd.fst.length = v_1.fst ∧ v_1.snd.snd = (↑(n.toNat / 256 ^ v_1.fst) : Int) ∧ 0 ≤ v_1.snd.snd ∧ v_1.snd.snd ≤ n) → br (decide ((↑v_1.fst : Int) < w)) (((256 : Int) ≠ (0 : Int)) ∧ ∀ (n3 : Int), (n3 = v_1.snd.snd.tmod (256 : Int)) → (inK .u64 n3) → ∀ (n6 : Int), (n6 = IntKind.u8.wrap n3) → (inK .u8 n6) → ((v_1.fst + 1) * 1 ≤ 140737488355328) ∧ ∀ (z9 : List UInt8), (z9 = List.take v_1.fst v_1.snd.fst ++ List.take 1 (List.drop 0 [UInt8.ofNat n6.toNat])) → ((256 : Int) ≠ (0 : Int)) ∧ ∀ (n11 : Int), (n11 = IntKind.u64.wrap (v_1.snd.snd.tdiv (256 : Int))) → (inK .u64 n11) → ∀ (n14 : Int), (n14 = IntKind.i64.wrap ((↑v_1.fst : Int) + (1 : Int))) → (inK .i64 n14) → ∃ (v' : Nat × List UInt8 × Int), (n11 = v'.snd.snd) ∧ (w = w) ∧ (0 = 0) ∧ (v_1.fst + 1 = v'.fst) ∧ (n14 = (↑v'.fst : Int)) ∧ (z9 = v'.snd.fst) ∧ ((v'.fst ≤ w.toNat) ∧ (v'.snd.fst = putL n.toNat v'.fst) ∧ (v'.snd.fst.length = v'.fst) ∧ (v'.snd.snd = (↑(n.toNat / 256 ^ v'.fst) : Int)) ∧ (0 ≤ v'.snd.snd) ∧ (v'.snd.snd ≤ n)) ∧ (w.toNat - v'.fst < w.toNat - v_1.fst)) (br (decide (v_1.snd.snd > 0)) ((k (.tup [.nilsl, .int .i64 2]) [] [])) ((k (.tup [.row 0 0 0 v_1.fst, .int .i64 0]) [] [.row 0 v_1.snd.fst])))) := by
 refine br_intro (fun c1 => ?_) (fun c1 => ?_)
 ·
  simp at c1
  refine hk.2 ?_
  unfold putOk
  rw [decide_eq_false_iff_not]
  omega
 simp at c1
 refine ⟨?_, ?_⟩
 ·
  refine ⟨((0 : Nat), [], n), rfl, rfl, rfl, rfl, by show (0 : Int) = (↑(0 : Nat) : Int); omega, rfl, by show (0 : Nat) ≤ w.toNat; omega, by rfl, rfl, by show n = (↑(n.toNat / (256 : Nat) ^ (0 : Nat)) : Int); omega, by show (0 : Int) ≤ n; assumption, ?_⟩
  exact by show n ≤ n; omega
 intro v_1 h2
 refine brd (fun c3 => ?_) (fun c3 => ?_)
 ·
  refine ⟨by first | omega | (dsimp only; omega), ?_⟩
  intro n3 q3
  rw [Int.tmod_eq_emod_of_nonneg (by omega)] at q3
  intro ⟨l3, u3⟩ n6 q6
  rw [IntKind.wrap_u8] at q6
  intro ⟨l6, u6⟩
  refine ⟨by first | omega | (dsimp only; omega), ?_⟩
  intro z9 qz9
  refine ⟨by first | omega | (dsimp only; omega), ?_⟩
  intro n11 q11
  rw [Int.tdiv_eq_ediv_of_nonneg (by omega)] at q11
  rw [IntKind.wrap_u64] at q11
  intro ⟨l11, u11⟩ n14 q14
  rw [IntKind.wrap_i64] at q14
  intro ⟨l14, u14⟩
  refine ⟨(v_1.fst + (1 : Nat), z9, n11), rfl, rfl, rfl, rfl, by show n14 = (↑(v_1.fst + (1 : Nat)) : Int); omega, rfl, ?_⟩
  refine ⟨?_, ?_⟩
  ·
   refine ⟨by show v_1.fst + (1 : Nat) ≤ w.toNat; omega, ?_⟩
   have h4 : z9 = putL n.toNat (v_1.fst + (1 : Nat)) := by
    have e : n6.toNat = n.toNat / 256 ^ v_1.fst % 256 := by
     have := h2.2.2.2.1
     generalize n.toNat / 256 ^ v_1.fst = a at this ⊢
     have u : v_1.snd.snd.tmod 256 = v_1.snd.snd % 256 := Int.tmod_eq_emod_of_nonneg (by omega)
     (try rw [u] at q3)
     omega
    rw [qz9, e, ofNat_mod, putL_succ, List.take_of_length_le (by omega), h2.2.1]
    rfl
   refine ⟨h4, ?_⟩
   have h5 : z9.length = v_1.fst + (1 : Nat) := by
    rw [qz9]; simp; omega
   refine ⟨h5, ?_⟩
   have h6 : n11 = (↑(n.toNat / (256 : Nat) ^ (v_1.fst + (1 : Nat))) : Int) := by
    have t : v_1.snd.snd.tdiv 256 = v_1.snd.snd / 256 := Int.tdiv_eq_ediv_of_nonneg (by omega)
    (try rw [t] at q11)
    have := h2.2.2.2.1
    rw [Nat.pow_succ, ← Nat.div_div_eq_div_mul]
    generalize n.toNat / 256 ^ v_1.fst = a at this ⊢
    omega
   refine ⟨h6, by show (0 : Int) ≤ n11; assumption, ?_⟩
   exact by show n11 ≤ n; omega
  exact by show w.toNat - (v_1.fst + (1 : Nat)) < w.toNat - v_1.fst; omega
 refine brd (fun c7 => ?_) (fun c7 => ?_)
 ·
  have e : v_1.fst = w.toNat := by omega
  have t := h2.2.2.2.1
  rw [e] at t
  refine hk.2 ?_
  unfold putOk
  rw [decide_eq_false_iff_not]
  rintro ⟨_, _, h3⟩
  rw [Nat.div_eq_of_lt h3] at t
  omega
 have e : v_1.fst = w.toNat := by omega
 have t := h2.2.2.2.1
 rw [e] at t
 refine hk.1 ?_ _ _ (by rw [h2.2.1, e]) (by omega)
 unfold putOk
 rw [decide_eq_true_eq]
 refine ⟨by omega, by omega, ?_⟩
 rcases Nat.lt_or_ge n.toNat (256 ^ w.toNat) with h | h
 ·
  exact h
 have := Nat.div_pos h (Nat.pow_pos (by decide))
 generalize n.toNat / 256 ^ w.toNat = a at this t
 omega
theorem rput_ok : Holds Try.prog 40 put0S := by
  refine fn_sound (env := mkEnv T0) (tab_ok T0_ok) Try.func40 Try.call40 fun args k h => ?_
  match args, h with
  | [.int .u64 n, .int .i64 w], h => exact ⟨by kernel_rfl, rputLoops n w, fun _ _ => none, .cast (by kernel_rfl) (rput_vc n h.1.1 h.1.2 w h.2.1.1 h.2.1.2 k h.2.2)⟩
set_option maxHeartbeats 2000000 in
theorem rget_vc (xs : List UInt8) (k : AV → List (Option Blk) → List Blk → Prop) (hk : ∀ (a e : Int), a = getV xs → e = getE xs → 0 ≤ a ∧ a ≤ 18446744073709551615 → e = 0 ∨ e = 8 → k (.tup [.int .u64 a, .int .i64 e]) [] []) : ∀ (n1 : Int), (n1 = (↑xs.length : Int)) → (inK .i64 n1) → ∀ (n4 : Int), (n4 = (↑xs.length : Int)) → br (bif decide (n1 < 1) then true else decide (n4 > 8)) ((k (.tup [.int .u64 0, .int .i64 8]) [] [])) (∀ (n6 : Int), (n6 = (↑xs.length : Int)) → (inK .i64 n6) → ∀ (n9 : Int), (n9 = IntKind.i64.wrap (n6 - 1)) → (inK .i64 n9) → (∃ (v : Int × Int), (xs = xs) ∧ (0 = v.snd) ∧ (n9 = v.fst) ∧ ((-1 ≤ v.fst) ∧ (v.fst < (↑xs.length : Int))) ∧ ((1 ≤ xs.length) ∧ (xs.length ≤ 8)) ∧ (v.snd = (↑(getL (List.drop (v.fst + 1).toNat xs)) : Int))) ∧ ∀ (v_12 : Int × Int), ((-1 ≤ v_12.fst ∧ v_12.fst < (↑xs.length : Int)) ∧ (1 ≤ xs.length ∧ xs.length ≤ 8) ∧ v_12.snd = (↑(getL (List.drop (v_12.fst + 1).toNat xs)) : Int)) → br (decide (v_12.fst ≥ 0)) (∀ (n14 : Int), (n14 = IntKind.u64.wrap (v_12.snd * (256 : Int))) → (inK .u64 n14) → (0 ≤ v_12.fst) ∧ (v_12.fst < (↑xs.length : Int)) ∧ ∀ (n17 : Int), (n17 = (↑(xs.getD v_12.fst.toNat (0 : UInt8)).toNat : Int)) → (inK .u8 n17) → ∀ (n20 : Int), (n20 = IntKind.u64.wrap n17) → (inK .u64 n20) → ∀ (n23 : Int), (n23 = IntKind.u64.wrap (n14 + n20)) → (inK .u64 n23) → ∀ (n26 : Int), (n26 = IntKind.i64.wrap (v_12.fst - 1)) → (inK .i64 n26) → ∃ (v' : Int × Int), (xs = xs) ∧ (n23 = v'.snd) ∧ (n26 = v'.fst) ∧ (((-1 ≤ v'.fst) ∧ (v'.fst < (↑xs.length : Int))) ∧ ((1 ≤ xs.length) ∧ (xs.length ≤ 8)) ∧ (v'.snd = (↑(getL (List.drop (v'.fst + (1 : Int)).toNat xs)) : Int))) ∧ ((v'.fst + (1 : Int)).toNat < (v_12.fst + 1).toNat)) ((k (.tup [.int .u64 v_12.snd, .int .i64 0]) [] []))) := by
 intro n1 q1 ⟨l1, u1⟩ n4 q4
 refine br_intro (fun c1 => ?_) (fun c1 => ?_)
 ·
  simp at c1
  exact hk 0 8 (by unfold getV; rw [if_neg (fun h => by unfold getOk at h; rw [decide_eq_true_eq] at h; omega)]) (by unfold getE; rw [if_neg (fun h => by unfold getOk at h; rw [decide_eq_true_eq] at h; omega)]) (by omega) (.inr rfl)
 simp at c1
 intro n6 q6 ⟨l6, u6⟩ n9 q9
 rw [IntKind.wrap_i64] at q9
 intro ⟨l9, u9⟩
 refine ⟨?_, ?_⟩
 ·
  refine ⟨(n9, (0 : Int)), rfl, rfl, rfl, by first | omega | (dsimp only; omega), by first | omega | (dsimp only; omega), ?_⟩
  rw [show (n9 + 1).toNat = xs.length by omega, List.drop_length]; rfl
 intro v_12 h2
 refine brd (fun c3 => ?_) (fun c3 => ?_)
 ·
  intro n14 q14
  rw [IntKind.wrap_u64] at q14
  intro ⟨l14, u14⟩
  refine ⟨by assumption, by first | omega | (dsimp only; omega), ?_⟩
  intro n17 q17 ⟨l17, u17⟩ n20 q20
  rw [IntKind.wrap_u64] at q20
  intro ⟨l20, u20⟩ n23 q23
  rw [IntKind.wrap_u64] at q23
  intro ⟨l23, u23⟩ n26 q26
  rw [IntKind.wrap_i64] at q26
  intro ⟨l26, u26⟩
  refine ⟨(n26, n23), rfl, rfl, rfl, ?_⟩
  refine ⟨?_, ?_⟩
  ·
   refine ⟨by first | omega | (dsimp only; omega), by first | omega | (dsimp only; omega), ?_⟩
   have d := getL_drop (xs := xs) (j := v_12.fst.toNat) (by omega)
   have b := getL_lt (List.drop (v_12.fst.toNat + 1) xs)
   have hp : 256 ^ (List.drop (v_12.fst.toNat + 1) xs).length ≤ 256 ^ 7 := Nat.pow_le_pow_right (by decide) (by rw [List.length_drop]; omega)
   have hp : 256 ^ (List.drop (v_12.fst.toNat + 1) xs).length ≤ 72057594037927936 := hp
   have t := h2.2.2
   rw [show (v_12.fst + 1).toNat = v_12.fst.toNat + 1 by omega] at t
   rw [show (n26 + 1).toNat = v_12.fst.toNat by omega, d]
   generalize 256 ^ (List.drop (v_12.fst.toNat + 1) xs).length = p at b hp
   omega
  exact by show (n26 + (1 : Int)).toNat < (v_12.fst + (1 : Int)).toNat; omega
 have t := h2.2.2
 rw [show (v_12.fst + 1).toNat = 0 by omega, List.drop_zero] at t
 have bg := getL_lt xs
 have pg : 256 ^ xs.length ≤ 256 ^ 8 := Nat.pow_le_pow_right (by decide) (by omega)
 have pg : 256 ^ xs.length ≤ 18446744073709551616 := pg
 exact hk _ 0 (by unfold getV; rw [if_pos (by unfold getOk; rw [decide_eq_true_eq]; omega), t]) (by unfold getE; rw [if_pos (by unfold getOk; rw [decide_eq_true_eq]; omega)]) (by omega) (.inl rfl)
theorem rget_ok : Holds Try.prog 79 getS := by
  refine fn_sound (env := mkEnv T0) (tab_ok T0_ok) Try.func79 Try.call79 fun args k h => ?_
  match args, h with
  | [.sl 0 xs], h => exact ⟨by kernel_rfl, rgetLoops xs, fun _ _ => none, .cast (by kernel_rfl) (rget_vc xs k h)⟩
theorem rputU_ok : Holds Try.prog 40 put8S := put8_up rput_ok
set_option maxHeartbeats 2000000 in
theorem rin_vc (n : Int) (a : Int) (b : Int) (k : AV → List (Option Blk) → List Blk → Prop) (hk : ∀ (r : Bool), (r = true ↔ a ≤ n ∧ n ≤ b) → k (.bool r) [] []) : (k (.bool (bif decide (n ≥ a) then decide (n ≤ b) else false)) [] []) := by
 exact hk _ (by simp)
theorem rin_ok : Holds Try.prog 63 inS := by
  refine fn_sound (env := mkEnv T0) (tab_ok T0_ok) Try.func63 Try.call63 fun args k h => ?_
  match args, h with
  | [.int .i64 n, .int .i64 a, .int .i64 b], h => exact ⟨by kernel_rfl, fun _ _ => none, fun _ _ => none, .cast (by kernel_rfl) (rin_vc n a b k h)⟩
theorem M1r_ok : TabOk Try.prog M1r := ⟨rsmall_ok, rread_ok, rin_ok, trivial⟩
set_option maxHeartbeats 2000000 in
theorem sms05_vc (l : List Int) (hl : l.length ≤ 1000000) (k : AV → List (Option Blk) → List Blk → Prop) (hk : ∀ (ys : List UInt8) (n : Nat), ys = sms l → ys.length = n → k (.row 0 0 0 n) [] [.row 0 ys]) : (∃ (v : Nat × Nat × List UInt8), (l = l) ∧ (0 = 0) ∧ (0 = v.snd.fst) ∧ ((0 : Int) = (↑v.fst : Int)) ∧ ([] = v.snd.snd) ∧ (v.fst ≤ l.length) ∧ (l.length ≤ 1000000) ∧ (v.snd.snd.length = v.snd.fst) ∧ (v.snd.fst ≤ 10 * v.fst) ∧ (v.snd.snd = sms (List.take v.fst l))) ∧ ∀ (v_1 : Nat × Nat × List UInt8), (v_1.fst ≤ l.length ∧ l.length ≤ 1000000 ∧ v_1.snd.snd.length = v_1.snd.fst ∧ v_1.snd.fst ≤ 10 * v_1.fst ∧ v_1.snd.snd = sms (List.take v_1.fst l)) → ∀ (n3 : Int), (n3 = (↑l.length : Int)) → (inK .i64 n3) → br (decide ((↑v_1.fst : Int) < n3)) (((0 : Int) ≤ (↑v_1.fst : Int)) ∧ ((↑v_1.fst : Int) < (↑l.length : Int)) ∧ ∀ (n6 : Int), (n6 = l.getD (↑v_1.fst : Int).toNat (0 : Int)) → (inK .i64 n6) → ∀ (n9 : Int), (n9 = IntKind.u64.wrap n6) → (inK .u64 n9) → ((0 ≤ n9) ∧ (n9 ≤ 18446744073709551615)) ∧ ∀ (ys_12 : List UInt8), ∀ (q_13 : Nat), (ys_12 = smallL n9.toNat) → (ys_12.length = q_13) → (q_13 ≤ 10) → ((v_1.snd.fst + q_13) * 1 ≤ 140737488355328) ∧ ∀ (z17 : List UInt8), (z17 = List.take v_1.snd.fst v_1.snd.snd ++ List.take q_13 (List.drop 0 ys_12)) → ∀ (n19 : Int), (n19 = IntKind.i64.wrap ((↑v_1.fst : Int) + (1 : Int))) → (inK .i64 n19) → ∃ (v' : Nat × Nat × List UInt8), (l = l) ∧ (0 = 0) ∧ (v_1.snd.fst + q_13 = v'.snd.fst) ∧ (n19 = (↑v'.fst : Int)) ∧ (z17 = v'.snd.snd) ∧ ((v'.fst ≤ l.length) ∧ (l.length ≤ 1000000) ∧ (v'.snd.snd.length = v'.snd.fst) ∧ (v'.snd.fst ≤ 10 * v'.fst) ∧ (v'.snd.snd = sms (List.take v'.fst l))) ∧ (l.length - v'.fst < l.length - v_1.fst)) ((k (.row 0 0 0 v_1.snd.fst) [] [.row 0 v_1.snd.snd])) := by
 refine ⟨?_, ?_⟩
 ·
  refine ⟨(Int.toNat (0 : Int), (0 : Nat), []), rfl, rfl, rfl, by show (0 : Int) = (↑(Int.toNat (0 : Int)) : Int); omega, rfl, by show Int.toNat (0 : Int) ≤ l.length; omega, by show l.length ≤ (1000000 : Nat); assumption, rfl, by show (0 : Nat) ≤ (10 : Nat) * Int.toNat (0 : Int); omega, ?_⟩
  exact by rfl
 intro v_1 h1 n3 q3 ⟨l3, u3⟩
 refine brd (fun c2 => ?_) (fun c2 => ?_)
 ·
  refine ⟨by first | omega | (dsimp only; omega), by first | omega | (dsimp only; omega), ?_⟩
  intro n6 q6 ⟨l6, u6⟩ n9 q9
  rw [IntKind.wrap_u64] at q9
  intro ⟨l9, u9⟩
  refine ⟨by exact ⟨by assumption, by assumption⟩, ?_⟩
  intro ys_12 q_13 h3 h4 h5
  refine ⟨by first | omega | (dsimp only; omega), ?_⟩
  intro z17 qz17 n19 q19
  rw [IntKind.wrap_i64] at q19
  intro ⟨l19, u19⟩
  refine ⟨(n19.toNat, v_1.snd.fst + q_13, z17), rfl, rfl, rfl, by show n19 = (↑n19.toNat : Int); omega, rfl, ?_⟩
  refine ⟨?_, ?_⟩
  ·
   refine ⟨by show n19.toNat ≤ l.length; omega, by show l.length ≤ (1000000 : Nat); assumption, ?_⟩
   have h6 : z17.length = v_1.snd.fst + q_13 := by
    rw [qz17, List.length_append, List.length_take, List.length_take, List.length_drop]; omega
   refine ⟨h6, by show v_1.snd.fst + q_13 ≤ (10 : Nat) * n19.toNat; omega, ?_⟩
   have se : ys_12 = smI (l.getD v_1.fst 0) := by unfold smI; rw [h3, q9, q6, Int.toNat_natCast]
   rw [show n19.toNat = v_1.fst + 1 by omega, sms_step (by omega), ← h1.2.2.2.2, qz17, ← h4, List.drop_zero, List.take_length, List.take_of_length_le (by omega), se]
  exact by show l.length - n19.toNat < l.length - v_1.fst; omega
 exact hk _ _ (by rw [h1.2.2.2.2, List.take_of_length_le (by omega)]) h1.2.2.1
theorem sms05_ok : Holds Try.prog 62 smsS := by
  refine fn_sound (env := mkEnv M1r) (tab_ok M1r_ok) Try.func62 Try.call62 fun args k h => ?_
  match args, h with
  | [.sl 1 l], h => exact ⟨by kernel_rfl, smsLoops l, fun _ _ => none, .cast (by kernel_rfl) (sms05_vc l h.1 k h.2)⟩
end Go.Proofs.Ytcdflgfhkohldaa
