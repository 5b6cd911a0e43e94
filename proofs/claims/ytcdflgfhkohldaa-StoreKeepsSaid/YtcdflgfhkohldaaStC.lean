import Derived.Test.YtcdflgfhkohldaaStB
namespace Go.Proofs.Ytcdflgfhkohldaa
open Go Go.Eng Go.Rw Go.Lk Go.Proofs
open Go.Bk hiding take_step drop_step set_mid
set_option linter.unusedVariables false
set_option maxHeartbeats 2000000 in
theorem small_vc (n : Int) (n0 : 0 ≤ n) (n1 : n ≤ 18446744073709551615) (k : AV → List (Option Blk) → List Blk → Prop) (hk : ∀ (ys : List UInt8) (q : Nat), ys = smallL n.toNat → ys.length = q → q ≤ 10 → k (.row 0 0 0 q) [] [.row 0 ys]) : (∃ (v : Nat × Nat × List UInt8), (n = (↑v.fst : Int)) ∧ (0 = 0) ∧ (0 = v.snd.fst) ∧ ([] = v.snd.snd) ∧ (v.snd.snd.length = v.snd.fst) ∧ (v.snd.fst < 10) ∧ (v.fst < 2 ^ (64 - 7 * v.snd.fst)) ∧ (v.snd.snd ++ smallF (10 - v.snd.fst) v.fst = smallL n.toNat)) ∧ ∀ (v_1 : Nat × Nat × List UInt8), (v_1.snd.snd.length = v_1.snd.fst ∧ v_1.snd.fst < 10 ∧ v_1.fst < 2 ^ (64 - 7 * v_1.snd.fst) ∧ v_1.snd.snd ++ smallF (10 - v_1.snd.fst) v_1.fst = smallL n.toNat) → br (decide ((↑v_1.fst : Int) > (127 : Int))) (∀ (n3 : Int), (n3 = IntKind.u8.wrap (↑v_1.fst : Int)) → (inK .u8 n3) → ∀ (n6 : Int), (n6 = bits BinOp.or .u8 n3 (128 : Int)) → (inK .u8 n6) → ((v_1.snd.fst + 1) * 1 ≤ 140737488355328) ∧ ∀ (z9 : List UInt8), (z9 = List.take v_1.snd.fst v_1.snd.snd ++ List.take 1 (List.drop 0 [UInt8.ofNat n6.toNat])) → ((0 : Int) ≤ (7 : Int)) ∧ ∀ (n11 : Int), (n11 = (↑v_1.fst : Int).fdiv ((2 : Int) ^ min (Int.toNat (7 : Int)) IntKind.u64.bits)) → (inK .u64 n11) → ∃ (v' : Nat × Nat × List UInt8), (n11 = (↑v'.fst : Int)) ∧ (0 = 0) ∧ (v_1.snd.fst + 1 = v'.snd.fst) ∧ (z9 = v'.snd.snd) ∧ ((v'.snd.snd.length = v'.snd.fst) ∧ (v'.snd.fst < 10) ∧ (v'.fst < 2 ^ (64 - 7 * v'.snd.fst)) ∧ (v'.snd.snd ++ smallF (10 - v'.snd.fst) v'.fst = smallL n.toNat)) ∧ (10 - v'.snd.fst < 10 - v_1.snd.fst)) (∀ (n14 : Int), (n14 = IntKind.u8.wrap (↑v_1.fst : Int)) → (inK .u8 n14) → ((v_1.snd.fst + 1) * 1 ≤ 140737488355328) ∧ ∀ (z17 : List UInt8), (z17 = List.take v_1.snd.fst v_1.snd.snd ++ List.take 1 (List.drop 0 [UInt8.ofNat n14.toNat])) → (k (.row 0 0 0 (v_1.snd.fst + 1)) [] [.row 0 z17])) := by
 refine ⟨?_, ?_⟩
 ·
  refine ⟨(n.toNat, (0 : Nat), []), by show n = (↑n.toNat : Int); omega, rfl, rfl, rfl, rfl, by show (0 : Nat) < (10 : Nat); omega, by show n.toNat < (2 : Nat) ^ ((64 : Nat) - (7 : Nat) * (0 : Nat)); omega, ?_⟩
  exact by rfl
 intro v_1 h1
 refine brd (fun c2 => ?_) (fun c2 => ?_)
 ·
  intro n3 q3
  rw [IntKind.wrap_u8] at q3
  intro ⟨l3, u3⟩ n6 q6 ⟨l6, u6⟩
  refine ⟨by first | omega | (dsimp only; omega), ?_⟩
  intro z9 qz9
  refine ⟨by first | omega | (dsimp only; omega), ?_⟩
  intro n11 q11
  rw [show (2 : Int) ^ min (Int.toNat (7 : Int)) IntKind.u64.bits = 128 from rfl, Int.fdiv_eq_ediv_of_nonneg _ (by decide)] at q11
  intro ⟨l11, u11⟩
  refine ⟨(n11.toNat, v_1.snd.fst + (1 : Nat), z9), by show n11 = (↑n11.toNat : Int); omega, rfl, rfl, rfl, ?_⟩
  refine ⟨?_, ?_⟩
  ·
   have h3 : z9.length = v_1.snd.fst + (1 : Nat) := by
    rw [qz9]; simp; omega
   refine ⟨h3, ?_⟩
   have h4 : v_1.snd.fst + (1 : Nat) < (10 : Nat) := by
    have := (small_step v_1.fst v_1.snd.fst h1.2.2.1 (by omega) h1.2.1).1
    omega
   refine ⟨h4, ?_⟩
   have h5 : n11.toNat < (2 : Nat) ^ ((64 : Nat) - (7 : Nat) * (v_1.snd.fst + (1 : Nat))) := by
    have := (small_step v_1.fst v_1.snd.fst h1.2.2.1 (by omega) h1.2.1).2
    have e : n11.toNat = v_1.fst / 128 := by omega
    rw [e]; exact this
   refine ⟨h5, ?_⟩
   have e5 : n11.toNat = v_1.fst / 128 := by omega
   have e3 := or128 v_1.fst n3 n6 q3 q6
   rw [← h1.2.2.2, e5, qz9, e3, List.take_of_length_le (by omega)]
   have e : 10 - v_1.snd.fst = (10 - (v_1.snd.fst + 1)) + 1 := by omega
   rw [e]
   have hF : smallF (10 - (v_1.snd.fst + 1) + 1) v_1.fst = UInt8.ofNat (v_1.fst % 128 + 128) :: smallF (10 - (v_1.snd.fst + 1)) (v_1.fst / 128) := by
    rw [smallF, if_neg (by omega)]
   rw [hF]
   simp
  exact by show (10 : Nat) - (v_1.snd.fst + (1 : Nat)) < (10 : Nat) - v_1.snd.fst; omega
 intro n14 q14
 rw [IntKind.wrap_u8] at q14
 intro ⟨l14, u14⟩
 refine ⟨by first | omega | (dsimp only; omega), ?_⟩
 intro z17 qz17
 have e : 10 - v_1.snd.fst = (9 - v_1.snd.fst) + 1 := by omega
 have hF : smallF (10 - v_1.snd.fst) v_1.fst = [UInt8.ofNat v_1.fst] := by
  rw [e, smallF, if_pos (by omega)]
 have e6 : n14.toNat = v_1.fst := by omega
 exact hk z17 (v_1.snd.fst + 1) (by rw [qz17, ← h1.2.2.2, hF, e6, List.take_of_length_le (by omega)]; simp) (by rw [qz17]; simp; omega) (by omega)
theorem small_ok : Holds Try.prog 34 smallS := by
  refine fn_sound (env := mkEnv T0) (tab_ok T0_ok) Try.func34 Try.call34 fun args k h => ?_
  match args, h with
  | [.int .u64 n], h => exact ⟨by kernel_rfl, smallLoops n, fun _ _ => none, .cast (by kernel_rfl) (small_vc n h.1.1 h.1.2 k h.2)⟩
set_option maxHeartbeats 2000000 in
theorem read_vc (xs : List UInt8) (hxs : xs.length ≤ 1000000) (k : AV → List (Option Blk) → List Blk → Prop) (hk : ∀ (a b c : Int), a = (↑(readG 0 0 xs).fst : Int) → b = (↑(readG 0 0 xs).snd.fst : Int) → c = (↑(readG 0 0 xs).snd.snd : Int) → 0 ≤ a ∧ a ≤ 18446744073709551615 → 0 ≤ b ∧ b ≤ 10 → c = 0 ∨ c = 8 → k (.tup [.int .u64 a, .int .i64 b, .int .i64 c]) [] []) : ∀ (n1 : Int), (n1 = (↑xs.length : Int)) → (inK .i64 n1) → (∃ (v : Nat × Nat), ((0 : Int) = (↑v.snd : Int)) ∧ (xs = xs) ∧ (n1 = (↑xs.length : Int)) ∧ ((0 : Int) = (↑v.fst : Int)) ∧ (v.fst ≤ xs.length) ∧ (v.fst ≤ 9) ∧ (v.snd < 128 ^ v.fst) ∧ (readG v.fst v.snd (List.drop v.fst xs) = readG 0 0 xs)) ∧ ∀ (v_4 : Nat × Nat), (v_4.fst ≤ xs.length ∧ v_4.fst ≤ 9 ∧ v_4.snd < 128 ^ v_4.fst ∧ readG v_4.fst v_4.snd (List.drop v_4.fst xs) = readG 0 0 xs) → br (decide ((↑v_4.fst : Int) < (↑xs.length : Int))) (((0 : Int) ≤ (↑v_4.fst : Int)) ∧ ((↑v_4.fst : Int) < (↑xs.length : Int)) ∧ ∀ (n6 : Int), (n6 = (↑(xs.getD (↑v_4.fst : Int).toNat (0 : UInt8)).toNat : Int)) → (inK .u8 n6) → br (bif (↑v_4.fst : Int) == (9 : Int) then decide (n6 > 1) else false) ((k (.tup [.int .u64 0, .int .i64 0, .int .i64 8]) [] [])) (∀ (n9 : Int), (n9 = bits BinOp.and .u8 n6 (127 : Int)) → (inK .u8 n9) → ∀ (n12 : Int), (n12 = IntKind.u64.wrap n9) → (inK .u64 n12) → ∀ (n15 : Int), (n15 = IntKind.i64.wrap ((7 : Int) * (↑v_4.fst : Int))) → (inK .i64 n15) → (0 ≤ n15) ∧ ∀ (n18 : Int), (n18 = IntKind.u64.wrap (n12 * (2 : Int) ^ min n15.toNat IntKind.u64.bits)) → (inK .u64 n18) → ∀ (n21 : Int), (n21 = bits BinOp.or .u64 (↑v_4.snd : Int) n18) → (inK .u64 n21) → br (decide (n6 < 128)) (br (bif n6 == 0 then decide ((↑v_4.fst : Int) > (0 : Int)) else false) ((k (.tup [.int .u64 0, .int .i64 0, .int .i64 8]) [] [])) (∀ (n24 : Int), (n24 = IntKind.i64.wrap ((↑v_4.fst : Int) + (1 : Int))) → (inK .i64 n24) → (k (.tup [.int .u64 n21, .int .i64 n24, .int .i64 0]) [] []))) (∀ (n27 : Int), (n27 = IntKind.i64.wrap ((↑v_4.fst : Int) + (1 : Int))) → (inK .i64 n27) → ∃ (v' : Nat × Nat), (n21 = (↑v'.snd : Int)) ∧ (xs = xs) ∧ ((↑xs.length : Int) = (↑xs.length : Int)) ∧ (n27 = (↑v'.fst : Int)) ∧ ((v'.fst ≤ xs.length) ∧ (v'.fst ≤ 9) ∧ (v'.snd < 128 ^ v'.fst) ∧ (readG v'.fst v'.snd (List.drop v'.fst xs) = readG 0 0 xs)) ∧ (xs.length - v'.fst < xs.length - v_4.fst)))) ((k (.tup [.int .u64 0, .int .i64 0, .int .i64 8]) [] [])) := by
 intro n1 q1 ⟨l1, u1⟩
 refine ⟨?_, ?_⟩
 ·
  refine ⟨(Int.toNat (0 : Int), Int.toNat (0 : Int)), by show (0 : Int) = (↑(Int.toNat (0 : Int)) : Int); omega, rfl, by show n1 = (↑xs.length : Int); assumption, by show (0 : Int) = (↑(Int.toNat (0 : Int)) : Int); omega, by show Int.toNat (0 : Int) ≤ xs.length; omega, by show Int.toNat (0 : Int) ≤ (9 : Nat); omega, by show Int.toNat (0 : Int) < (128 : Nat) ^ Int.toNat (0 : Int); decide, ?_⟩
  exact by rfl
 intro v_4 h1
 refine brd (fun c2 => ?_) (fun c2 => ?_)
 ·
  refine ⟨by first | omega | (dsimp only; omega), by assumption, ?_⟩
  intro n6 q6 ⟨l6, u6⟩
  refine br_intro (fun c3 => ?_) (fun c3 => ?_)
  ·
   simp at c3
   have e : n6 = (((xs.getD v_4.fst 0).toNat : Nat) : Int) := by rw [q6, Int.toNat_natCast]
   have hr := h1.2.2.2
   rw [read_at xs v_4.fst v_4.snd (by omega), if_pos (by omega)] at hr
   exact hk 0 0 8 (by rw [← hr]; rfl) (by rw [← hr]; rfl) (by rw [← hr]; rfl) (by omega) (by omega) (.inr rfl)
  simp at c3
  intro n9 q9
  rw [and_u8 7 (by decide) 127 128 (by decide) (by decide) _ (by omega) (by omega)] at q9
  intro ⟨l9, u9⟩ n12 q12
  rw [IntKind.wrap_u64] at q12
  intro ⟨l12, u12⟩ n15 q15
  rw [IntKind.wrap_i64] at q15
  intro ⟨l15, u15⟩
  have h4 : (0 : Int) ≤ n15 := by
   first | omega | (have e := Int.emod_eq_of_lt (a := 7 * (v_4.fst : Int) + 9223372036854775808) (b := 18446744073709551616) (by omega) (by omega); omega)
  refine ⟨h4, ?_⟩
  intro n18 q18
  rw [IntKind.wrap_u64] at q18
  intro ⟨l18, u18⟩ n21 q21 ⟨l21, u21⟩
  refine brd (fun c5 => ?_) (fun c5 => ?_)
  ·
   refine br_intro (fun c6 => ?_) (fun c6 => ?_)
   ·
    simp at c6
    have e : n6 = (((xs.getD v_4.fst 0).toNat : Nat) : Int) := by rw [q6, Int.toNat_natCast]
    have hr := h1.2.2.2
    rw [read_at xs v_4.fst v_4.snd (by omega), if_neg (by omega), if_pos (by omega), if_pos (by omega)] at hr
    exact hk 0 0 8 (by rw [← hr]; rfl) (by rw [← hr]; rfl) (by rw [← hr]; rfl) (by omega) (by omega) (.inr rfl)
   simp at c6
   intro n24 q24
   rw [IntKind.wrap_i64] at q24
   intro ⟨l24, u24⟩
   have e : n6 = (((xs.getD v_4.fst 0).toNat : Nat) : Int) := by rw [q6, Int.toNat_natCast]
   have hr := h1.2.2.2
   have e7 := or7 v_4.snd (xs.getD v_4.fst 0).toNat v_4.fst n12 n15 n18 n21 (by omega) h1.2.1 (by omega) h1.2.2.1 (by omega) (by omega) q18 q21
   rw [read_at xs v_4.fst v_4.snd (by omega), if_neg (by omega), if_pos (by omega), if_neg (by omega)] at hr
   exact hk n21 n24 0 (by rw [← hr]; exact e7) (by rw [← hr]; show n24 = ((v_4.fst + 1 : Nat) : Int); omega) (by rw [← hr]; rfl) (by omega) (by omega) (.inl rfl)
  intro n27 q27
  rw [IntKind.wrap_i64] at q27
  intro ⟨l27, u27⟩
  refine ⟨(n27.toNat, n21.toNat), by show n21 = (↑n21.toNat : Int); omega, rfl, rfl, by show n27 = (↑n27.toNat : Int); omega, ?_⟩
  refine ⟨?_, ?_⟩
  ·
   refine ⟨by show n27.toNat ≤ xs.length; omega, by show n27.toNat ≤ (9 : Nat); omega, ?_⟩
   have h7 : n21.toNat < (128 : Nat) ^ n27.toNat := by
    have e : n6 = (((xs.getD v_4.fst 0).toNat : Nat) : Int) := by rw [q6, Int.toNat_natCast]
    have hr := h1.2.2.2
    have e7 := or7 v_4.snd (xs.getD v_4.fst 0).toNat v_4.fst n12 n15 n18 n21 (by omega) h1.2.1 (by omega) h1.2.2.1 (by omega) (by omega) q18 q21
    have hb : (xs.getD v_4.fst 0).toNat % 128 * 128 ^ v_4.fst ≤ 127 * 128 ^ v_4.fst := Nat.mul_le_mul_right _ (by omega)
    have h9 := h1.2.2.1
    rw [e7, Int.toNat_natCast, show n27.toNat = v_4.fst + 1 by omega, Nat.pow_succ]
    omega
   refine ⟨h7, ?_⟩
   have e : n6 = (((xs.getD v_4.fst 0).toNat : Nat) : Int) := by rw [q6, Int.toNat_natCast]
   have hr := h1.2.2.2
   have e7 := or7 v_4.snd (xs.getD v_4.fst 0).toNat v_4.fst n12 n15 n18 n21 (by omega) h1.2.1 (by omega) h1.2.2.1 (by omega) (by omega) q18 q21
   rw [read_at xs v_4.fst v_4.snd (by omega), if_neg (by omega), if_neg (by omega)] at hr
   rw [e7, Int.toNat_natCast, show n27.toNat = v_4.fst + 1 by omega]
   exact hr
  exact by show xs.length - n27.toNat < xs.length - v_4.fst; omega
 have e : v_4.fst = xs.length := by omega
 have hr := h1.2.2.2
 rw [e, List.drop_length] at hr
 exact hk 0 0 8 (by rw [← hr]; rfl) (by rw [← hr]; rfl) (by rw [← hr]; rfl) (by omega) (by omega) (.inr rfl)
theorem read_ok : Holds Try.prog 75 readS := by
  refine fn_sound (env := mkEnv T0) (tab_ok T0_ok) Try.func75 Try.call75 fun args k h => ?_
  match args, h with
  | [.sl 0 xs], h => exact ⟨by kernel_rfl, readLoops xs, fun _ _ => none, .cast (by kernel_rfl) (read_vc xs h.1 k h.2)⟩
set_option maxHeartbeats 2000000 in
theorem put_vc (n : Int) (n0 : 0 ≤ n) (n1 : n ≤ 18446744073709551615) (w : Int) (w0 : -9223372036854775808 ≤ w) (w1 : w ≤ 9223372036854775807) (k : AV → List (Option Blk) → List Blk → Prop) (hk : (putOk n w = true → ∀ (ys : List UInt8) (q : Nat), ys = putL n.toNat w.toNat → (↑q : Int) = w → k (.tup [.row 0 0 0 q, .int .i64 0]) [] [.row 0 ys]) ∧ (putOk n w = false → k (.tup [.nilsl, .int .i64 2]) [] [])) : ∀ (n1 : Int), (n1 = IntKind.i64.wrap ((8 : Int) * w)) → ((decide (w < 8) = true ∧ (bif decide (w < 1) then true else decide (w > 8)) = false) → (0 ≤ n1)) ∧ ∀ (n4 : Int), (n4 = n.fdiv ((2 : Int) ^ min n1.toNat IntKind.u64.bits)) → br (bif bif decide (w < 1) then true else decide (w > 8) then true else bif decide (w < 8) then n4 != 0 else false) ((k (.tup [.nilsl, .int .i64 2]) [] [])) (((0 ≤ w) ∧ (w ≤ w) ∧ (w * (↑(1 : Nat) : Int) ≤ (140737488355328 : Int))) ∧ ∀ (n6 : Int), (n6 = (↑w.toNat : Int)) → (inK .i64 n6) → (∃ (v : Nat × List UInt8), (n = n) ∧ (0 = 0) ∧ (w.toNat = w.toNat) ∧ (n6 = w) ∧ ((0 : Int) = (↑v.fst : Int)) ∧ (List.replicate w.toNat (UInt8.ofNat (Int.toNat (0 : Int))) = v.snd) ∧ (v.fst ≤ w.toNat) ∧ (v.snd = putL n.toNat v.fst ++ List.replicate (w.toNat - v.fst) (0 : UInt8)) ∧ (v.snd.length = w.toNat)) ∧ ∀ (v_9 : Nat × List UInt8), (v_9.fst ≤ w.toNat ∧ v_9.snd = putL n.toNat v_9.fst ++ List.replicate (w.toNat - v_9.fst) (0 : UInt8) ∧ v_9.snd.length = w.toNat) → br (decide ((↑v_9.fst : Int) < w)) (∀ (n11 : Int), (n11 = IntKind.i64.wrap ((8 : Int) * (↑v_9.fst : Int))) → (inK .i64 n11) → (0 ≤ n11) ∧ ∀ (n14 : Int), (n14 = n.fdiv ((2 : Int) ^ min n11.toNat IntKind.u64.bits)) → (inK .u64 n14) → ∀ (n17 : Int), (n17 = IntKind.u8.wrap n14) → (inK .u8 n17) → ((0 : Int) ≤ (↑v_9.fst : Int)) ∧ ((↑v_9.fst : Int) < (↑w.toNat : Int)) ∧ (0 + (↑v_9.fst : Int).toNat < v_9.snd.length) ∧ ∀ (z20 : List UInt8), (z20 = v_9.snd.set (0 + (↑v_9.fst : Int).toNat) (UInt8.ofNat n17.toNat)) → ∀ (n22 : Int), (n22 = IntKind.i64.wrap ((↑v_9.fst : Int) + (1 : Int))) → (inK .i64 n22) → ∃ (v' : Nat × List UInt8), (n = n) ∧ (0 = 0) ∧ (w.toNat = w.toNat) ∧ (w = w) ∧ (n22 = (↑v'.fst : Int)) ∧ (z20 = v'.snd) ∧ ((v'.fst ≤ w.toNat) ∧ (v'.snd = putL n.toNat v'.fst ++ List.replicate (w.toNat - v'.fst) (0 : UInt8)) ∧ (v'.snd.length = w.toNat)) ∧ (w.toNat - v'.fst < w.toNat - v_9.fst)) ((k (.tup [.row 0 0 0 w.toNat, .int .i64 0]) [] [.row 0 v_9.snd]))) := by
 intro n1 q1
 rw [IntKind.wrap_i64] at q1
 refine ⟨?_, ?_⟩
 ·
  intro ⟨l1, u1⟩
  simp at l1
  simp at u1
  exact by omega
 intro n4 q4
 refine br_intro (fun c1 => ?_) (fun c1 => ?_)
 ·
  simp at c1
  refine hk.2 ?_
  rw [← Bool.not_eq_true]
  intro hc
  unfold putOk at hc
  simp only [decide_eq_true_eq] at hc
  obtain ⟨w1, w2, w3⟩ := hc
  rcases c1 with c1 | c1
  ·
   omega
  obtain ⟨c2, c3⟩ := c1
  apply c3
  rw [q4, shr8 n n1 w.toNat n0 (by omega) (by omega), Nat.div_eq_of_lt w3]
  rfl
 simp at c1
 refine ⟨?_, ?_⟩
 ·
  refine ⟨by first | omega | (dsimp only; omega), by first | omega | (dsimp only; omega), ?_⟩
  exact by omega
 intro n6 q6 ⟨l6, u6⟩
 refine ⟨?_, ?_⟩
 ·
  refine ⟨(Int.toNat (0 : Int), List.replicate w.toNat (UInt8.ofNat (Int.toNat (0 : Int)))), rfl, rfl, rfl, by show n6 = w; omega, by show (0 : Int) = (↑(Int.toNat (0 : Int)) : Int); omega, rfl, by show Int.toNat (0 : Int) ≤ w.toNat; omega, by rfl, ?_⟩
  simp
 intro v_9 h2
 refine brd (fun c3 => ?_) (fun c3 => ?_)
 ·
  intro n11 q11
  rw [IntKind.wrap_i64] at q11
  intro ⟨l11, u11⟩
  refine ⟨by first | omega | (dsimp only; omega), ?_⟩
  intro n14 q14 ⟨l14, u14⟩ n17 q17
  rw [IntKind.wrap_u8] at q17
  intro ⟨l17, u17⟩
  refine ⟨by first | omega | (dsimp only; omega), by first | omega | (dsimp only; omega), by first | omega | (dsimp only; omega), ?_⟩
  intro z20 qz20 n22 q22
  rw [IntKind.wrap_i64] at q22
  intro ⟨l22, u22⟩
  refine ⟨(n22.toNat, z20), rfl, rfl, rfl, rfl, by show n22 = (↑n22.toNat : Int); omega, rfl, ?_⟩
  refine ⟨?_, ?_⟩
  ·
   refine ⟨by show n22.toNat ≤ w.toNat; omega, ?_⟩
   have h4 : z20 = putL n.toNat n22.toNat ++ List.replicate (w.toNat - n22.toNat) (0 : UInt8) := by
    have e5 : n14 = ((n.toNat / 256 ^ v_9.fst : Nat) : Int) := by rw [q14]; exact shr8 n n11 v_9.fst n0 (by omega) (by omega)
    have e6 : n17.toNat = (n.toNat / 256 ^ v_9.fst) % 256 := by
     generalize n.toNat / 256 ^ v_9.fst = a at e5
     omega
    have sm := set_mid (putL n.toNat v_9.fst) (w.toNat - v_9.fst) (UInt8.ofNat (n.toNat / 256 ^ v_9.fst)) (by omega)
    rw [putL_len] at sm
    rw [qz20, e6, ofNat_mod, h2.2.1, Int.toNat_natCast, Nat.zero_add, sm, show n22.toNat = v_9.fst + 1 by omega, putL_succ, Nat.sub_sub]
   refine ⟨h4, ?_⟩
   rw [qz20]; simp; omega
  exact by show w.toNat - n22.toNat < w.toNat - v_9.fst; omega
 have e : v_9.fst = w.toNat := by omega
 refine hk.1 ?_ v_9.snd w.toNat (by rw [h2.2.1, e, Nat.sub_self, List.replicate_zero, List.append_nil]) (by omega)
 unfold putOk
 simp only [decide_eq_true_eq]
 refine ⟨by omega, by omega, ?_⟩
 rcases Int.lt_or_le w 8 with h | h
 ·
  have := c1.2 h
  rw [q4, shr8 n n1 w.toNat n0 (by omega) (by omega)] at this
  have h3 : n.toNat / 256 ^ w.toNat = 0 := by omega
  rcases Nat.div_eq_zero_iff.1 h3 with h4 | h4
  ·
   exact absurd h4 (Nat.pos_iff_ne_zero.1 (Nat.pow_pos (by decide)))
  exact h4
 have : w.toNat = 8 := by omega
 rw [this]
 show n.toNat < 18446744073709551616
 omega
theorem put_ok : Holds Try.prog 35 put0S := by
  refine fn_sound (env := mkEnv T0) (tab_ok T0_ok) Try.func35 Try.call35 fun args k h => ?_
  match args, h with
  | [.int .u64 n, .int .i64 w], h => exact ⟨by kernel_rfl, putLoops n w, fun _ _ => none, .cast (by kernel_rfl) (put_vc n h.1.1 h.1.2 w h.2.1.1 h.2.1.2 k h.2.2)⟩
set_option maxHeartbeats 2000000 in
theorem get_vc (xs : List UInt8) (k : AV → List (Option Blk) → List Blk → Prop) (hk : ∀ (a e : Int), a = getV xs → e = getE xs → 0 ≤ a ∧ a ≤ 18446744073709551615 → e = 0 ∨ e = 8 → k (.tup [.int .u64 a, .int .i64 e]) [] []) : ∀ (n1 : Int), (n1 = (↑xs.length : Int)) → (inK .i64 n1) → ∀ (n4 : Int), (n4 = (↑xs.length : Int)) → br (bif decide (n1 < 1) then true else decide (n4 > 8)) ((k (.tup [.int .u64 0, .int .i64 8]) [] [])) (∀ (n6 : Int), (n6 = (↑xs.length : Int)) → (inK .i64 n6) → (∃ (v : Nat × Int), (0 = v.snd) ∧ (xs = xs) ∧ (n6 = (↑xs.length : Int)) ∧ ((0 : Int) = (↑v.fst : Int)) ∧ (v.fst ≤ xs.length) ∧ (xs.length ≤ 8) ∧ (v.snd = (↑(getL (List.take v.fst xs)) : Int))) ∧ ∀ (v_9 : Nat × Int), (v_9.fst ≤ xs.length ∧ xs.length ≤ 8 ∧ v_9.snd = (↑(getL (List.take v_9.fst xs)) : Int)) → br (decide ((↑v_9.fst : Int) < (↑xs.length : Int))) (((0 : Int) ≤ (↑v_9.fst : Int)) ∧ ((↑v_9.fst : Int) < (↑xs.length : Int)) ∧ ∀ (n11 : Int), (n11 = (↑(xs.getD (↑v_9.fst : Int).toNat (0 : UInt8)).toNat : Int)) → (inK .u8 n11) → ∀ (n14 : Int), (n14 = IntKind.u64.wrap n11) → (inK .u64 n14) → ∀ (n17 : Int), (n17 = IntKind.i64.wrap ((8 : Int) * (↑v_9.fst : Int))) → (inK .i64 n17) → (0 ≤ n17) ∧ ∀ (n20 : Int), (n20 = IntKind.u64.wrap (n14 * (2 : Int) ^ min n17.toNat IntKind.u64.bits)) → (inK .u64 n20) → ∀ (n23 : Int), (n23 = bits BinOp.or .u64 v_9.snd n20) → (inK .u64 n23) → ∀ (n26 : Int), (n26 = IntKind.i64.wrap ((↑v_9.fst : Int) + (1 : Int))) → (inK .i64 n26) → ∃ (v' : Nat × Int), (n23 = v'.snd) ∧ (xs = xs) ∧ ((↑xs.length : Int) = (↑xs.length : Int)) ∧ (n26 = (↑v'.fst : Int)) ∧ ((v'.fst ≤ xs.length) ∧ (xs.length ≤ 8) ∧ (v'.snd = (↑(getL (List.take v'.fst xs)) : Int))) ∧ (xs.length - v'.fst < xs.length - v_9.fst)) ((k (.tup [.int .u64 v_9.snd, .int .i64 0]) [] []))) := by
 intro n1 q1 ⟨l1, u1⟩ n4 q4
 refine br_intro (fun c1 => ?_) (fun c1 => ?_)
 ·
  simp at c1
  exact hk 0 8 (by unfold getV; rw [if_neg (fun h => by unfold getOk at h; rw [decide_eq_true_eq] at h; omega)]) (by unfold getE; rw [if_neg (fun h => by unfold getOk at h; rw [decide_eq_true_eq] at h; omega)]) (by omega) (.inr rfl)
 simp at c1
 intro n6 q6 ⟨l6, u6⟩
 refine ⟨?_, ?_⟩
 ·
  refine ⟨(Int.toNat (0 : Int), (0 : Int)), rfl, rfl, by show n6 = (↑xs.length : Int); assumption, by show (0 : Int) = (↑(Int.toNat (0 : Int)) : Int); omega, by show Int.toNat (0 : Int) ≤ xs.length; omega, by show xs.length ≤ (8 : Nat); omega, ?_⟩
  exact by rfl
 intro v_9 h2
 refine brd (fun c3 => ?_) (fun c3 => ?_)
 ·
  refine ⟨by first | omega | (dsimp only; omega), by assumption, ?_⟩
  intro n11 q11 ⟨l11, u11⟩ n14 q14
  rw [IntKind.wrap_u64] at q14
  intro ⟨l14, u14⟩ n17 q17
  rw [IntKind.wrap_i64] at q17
  intro ⟨l17, u17⟩
  refine ⟨by first | omega | (dsimp only; omega), ?_⟩
  intro n20 q20
  rw [IntKind.wrap_u64] at q20
  intro ⟨l20, u20⟩ n23 q23 ⟨l23, u23⟩ n26 q26
  rw [IntKind.wrap_i64] at q26
  intro ⟨l26, u26⟩
  refine ⟨(n26.toNat, n23), rfl, rfl, rfl, by show n26 = (↑n26.toNat : Int); omega, ?_⟩
  refine ⟨?_, ?_⟩
  ·
   refine ⟨by show n26.toNat ≤ xs.length; omega, by show xs.length ≤ (8 : Nat); omega, ?_⟩
   have e3 : n14 = (((xs.getD v_9.fst 0).toNat : Nat) : Int) := by
    have : n11 = (((xs.getD v_9.fst 0).toNat : Nat) : Int) := by rw [q11, Int.toNat_natCast]
    omega
   have hx : (xs.getD v_9.fst 0).toNat ≤ 255 := by omega
   have room := byte_room (xs.getD v_9.fst 0).toNat v_9.fst hx (by omega)
   have hlt : getL (List.take v_9.fst xs) < 2 ^ (8 * v_9.fst) := by
    have := getL_lt (List.take v_9.fst xs)
    rw [List.length_take, Nat.min_eq_left h2.1, ← pow8] at this
    exact this
   have e5 : n20 = (((xs.getD v_9.fst 0).toNat * 2 ^ (8 * v_9.fst) : Nat) : Int) := by
    rw [q20, e3]
    exact shl_val _ (8 * v_9.fst) n17 _ (by omega) (by show 8 * v_9.fst ≤ 64; omega) (by omega)
   rw [show n26.toNat = v_9.fst + 1 by omega, q23, e5, h2.2.2, or64 _ _ _ hlt (by omega), List.take_succ_eq_append_getElem (by omega), getL_append, List.length_take, Nat.min_eq_left h2.1, ← pow8]
   have : xs.getD v_9.fst 0 = xs[v_9.fst] := by simp [List.getD, show v_9.fst < xs.length by omega]
   rw [this]
  exact by show xs.length - n26.toNat < xs.length - v_9.fst; omega
 have e : v_9.fst = xs.length := by omega
 have bg := getL_lt xs
 have pg : 256 ^ xs.length ≤ 256 ^ 8 := Nat.pow_le_pow_right (by decide) (by omega)
 have pg : 256 ^ xs.length ≤ 18446744073709551616 := pg
 have t := h2.2.2
 rw [e, List.take_length] at t
 exact hk _ 0 (by unfold getV; rw [if_pos (by unfold getOk; rw [decide_eq_true_eq]; omega), t]) (by unfold getE; rw [if_pos (by unfold getOk; rw [decide_eq_true_eq]; omega)]) (by omega) (.inl rfl)
theorem get_ok : Holds Try.prog 78 getS := by
  refine fn_sound (env := mkEnv T0) (tab_ok T0_ok) Try.func78 Try.call78 fun args k h => ?_
  match args, h with
  | [.sl 0 xs], h => exact ⟨by kernel_rfl, getLoops xs, fun _ _ => none, .cast (by kernel_rfl) (get_vc xs k h)⟩
theorem putU_ok : Holds Try.prog 35 put8S := put8_up put_ok
set_option maxHeartbeats 2000000 in
theorem equal_vc (a : List UInt8) (b : List UInt8) (k : AV → List (Option Blk) → List Blk → Prop) (hk : ∀ (r : Bool), (r = true ↔ a = b) → k (.bool r) [] []) : (k (.bool ({ data := a.toArray : ByteArray }.data.toList == { data := b.toArray : ByteArray }.data.toList)) [] []) := by
 exact hk _ ⟨fun h => by simpa using h, fun h => by simp [h]⟩
theorem equal_ok : Holds Try.prog 77 equalS := by
  refine fn_sound (env := mkEnv T0) (tab_ok T0_ok) Try.func77 Try.call77 fun args k h => ?_
  match args, h with
  | [.sl 0 a, .sl 0 b], h => exact ⟨by kernel_rfl, fun _ _ => none, fun _ _ => none, .cast (by kernel_rfl) (equal_vc a b k h)⟩
set_option maxHeartbeats 2000000 in
theorem sin_vc (n : Int) (a : Int) (b : Int) (k : AV → List (Option Blk) → List Blk → Prop) (hk : ∀ (r : Bool), (r = true ↔ a ≤ n ∧ n ≤ b) → k (.bool r) [] []) : (k (.bool (bif decide (n ≥ a) then decide (n ≤ b) else false)) [] []) := by
 exact hk _ (by simp)
theorem sin_ok : Holds Try.prog 60 inS := by
  refine fn_sound (env := mkEnv T0) (tab_ok T0_ok) Try.func60 Try.call60 fun args k h => ?_
  match args, h with
  | [.int .i64 n, .int .i64 a, .int .i64 b], h => exact ⟨by kernel_rfl, fun _ _ => none, fun _ _ => none, .cast (by kernel_rfl) (sin_vc n a b k h)⟩
set_option maxHeartbeats 2000000 in
theorem samei_vc (a : List Int) (b : List Int) (k : AV → List (Option Blk) → List Blk → Prop) (hk : ∀ (r : Bool), (r = true ↔ a = b) → k (.bool r) [] []) : ∀ (n1 : Int), (n1 = (↑a.length : Int)) → (inK .i64 n1) → ∀ (n4 : Int), (n4 = (↑b.length : Int)) → (inK .i64 n4) → br (n1 != n4) ((k (.bool false) [] [])) ((∃ (v : Nat), (a = a) ∧ (b = b) ∧ ((0 : Int) = (↑v : Int)) ∧ (v ≤ a.length) ∧ (a.length = b.length) ∧ (eqI a b v)) ∧ ∀ (v_7 : Nat), (v_7 ≤ a.length ∧ a.length = b.length ∧ eqI a b v_7) → ∀ (n9 : Int), (n9 = (↑a.length : Int)) → (inK .i64 n9) → br (decide ((↑v_7 : Int) < n9)) (((0 : Int) ≤ (↑v_7 : Int)) ∧ ((↑v_7 : Int) < (↑a.length : Int)) ∧ ∀ (n12 : Int), (n12 = a.getD (↑v_7 : Int).toNat (0 : Int)) → (inK .i64 n12) → ((0 : Int) ≤ (↑v_7 : Int)) ∧ ((↑v_7 : Int) < (↑b.length : Int)) ∧ ∀ (n15 : Int), (n15 = b.getD (↑v_7 : Int).toNat (0 : Int)) → (inK .i64 n15) → br (n12 != n15) ((k (.bool false) [] [])) (∀ (n18 : Int), (n18 = IntKind.i64.wrap ((↑v_7 : Int) + (1 : Int))) → (inK .i64 n18) → ∃ (v' : Nat), (a = a) ∧ (b = b) ∧ (n18 = (↑v' : Int)) ∧ ((v' ≤ a.length) ∧ (a.length = b.length) ∧ (eqI a b v')) ∧ (a.length - v' < a.length - v_7))) ((k (.bool true) [] []))) := by
 intro n1 q1 ⟨l1, u1⟩ n4 q4 ⟨l4, u4⟩
 refine br_intro (fun c1 => ?_) (fun c1 => ?_)
 ·
  simp at c1
  refine hk false ⟨fun c => (by cases c), fun e => ?_⟩
  subst e
  exact absurd (by omega) c1
 simp at c1
 refine ⟨?_, ?_⟩
 ·
  refine ⟨Int.toNat (0 : Int), rfl, rfl, by show (0 : Int) = (↑(Int.toNat (0 : Int)) : Int); omega, by show Int.toNat (0 : Int) ≤ a.length; omega, by show a.length = b.length; omega, ?_⟩
  exact ⟨rfl⟩
 intro v_7 h2 n9 q9 ⟨l9, u9⟩
 refine brd (fun c3 => ?_) (fun c3 => ?_)
 ·
  refine ⟨by first | omega | (dsimp only; omega), by first | omega | (dsimp only; omega), ?_⟩
  intro n12 q12 ⟨l12, u12⟩
  refine ⟨by first | omega | (dsimp only; omega), by first | omega | (dsimp only; omega), ?_⟩
  intro n15 q15 ⟨l15, u15⟩
  refine br_intro (fun c4 => ?_) (fun c4 => ?_)
  ·
   simp at c4
   refine hk false ⟨fun c => (by cases c), fun e => ?_⟩
   subst e
   exact absurd (by rw [q12, q15]) c4
  simp at c4
  intro n18 q18
  rw [IntKind.wrap_i64] at q18
  intro ⟨l18, u18⟩
  refine ⟨n18.toNat, rfl, rfl, by show n18 = (↑n18.toNat : Int); omega, ?_⟩
  refine ⟨?_, ?_⟩
  ·
   refine ⟨by show n18.toNat ≤ a.length; omega, by show a.length = b.length; omega, ?_⟩
   rw [Int.toNat_natCast] at q12 q15
   exact eqi_step h2.2.2 (by omega) (by omega) (by omega) (by rw [← q12, ← q15]; exact c4)
  exact by show a.length - n18.toNat < a.length - v_7; omega
 have e := h2.2.2.e
 rw [List.take_of_length_le (by omega), List.take_of_length_le (by omega)] at e
 exact hk true ⟨fun _ => e, fun _ => rfl⟩
theorem samei_ok : Holds Try.prog 74 sameIS := by
  refine fn_sound (env := mkEnv T0) (tab_ok T0_ok) Try.func74 Try.call74 fun args k h => ?_
  match args, h with
  | [.sl 1 a, .sl 1 b], h => exact ⟨by kernel_rfl, sameILoops a b, fun _ _ => none, .cast (by kernel_rfl) (samei_vc a b k h)⟩
theorem M1_ok : TabOk Try.prog M1 := ⟨small_ok, sin_ok, read_ok, trivial⟩
end Go.Proofs.Ytcdflgfhkohldaa
