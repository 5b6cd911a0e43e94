import Derived.Test.YtcdflgfhkohldaaEngW
namespace Go.Rw
open Go Go.Eng
set_option linter.unusedVariables false
set_option linter.unusedSimpArgs false
def putL (n : Nat) (w : Nat) : List UInt8 := (List.range w).map fun i => UInt8.ofNat (n / 256 ^ i)
def putOk (n w : Int) : Bool := decide (1 ≤ w ∧ w ≤ 8 ∧ n.toNat < 256 ^ w.toNat)
def smallF : Nat → Nat → List UInt8
  | 0, _ => []
  | f + 1, n => if n < 128 then [UInt8.ofNat n] else UInt8.ofNat (n % 128 + 128) :: smallF f (n / 128)
def smallL (n : Nat) : List UInt8 := smallF 10 n
def getL : List UInt8 → Nat
  | [] => 0
  | x :: r => x.toNat + 256 * getL r
def getOk (xs : List UInt8) : Bool := decide (1 ≤ xs.length ∧ xs.length ≤ 8)
def readG : Nat → Nat → List UInt8 → Nat × Nat × Nat
  | _, _, [] => (0, 0, 8)
  | i, acc, x :: r => if i = 9 ∧ 1 < x.toNat then (0, 0, 8) else
      if x.toNat < 128 then (if x.toNat = 0 ∧ 0 < i then (0, 0, 8) else (acc + x.toNat % 128 * 128 ^ i, i + 1, 0))
      else readG (i + 1) (acc + x.toNat % 128 * 128 ^ i) r
theorem shr_val (n : Int) (m : Nat) (h0 : 0 ≤ n) : n.fdiv ((2 : Int) ^ m) = ((n.toNat / 2 ^ m : Nat) : Int) := by
  obtain ⟨a, rfl⟩ := Int.eq_ofNat_of_zero_le h0
  rw [Int.fdiv_eq_ediv_of_nonneg _ (Int.pow_nonneg (by decide))]
  simp
theorem pow8 (i : Nat) : 2 ^ (8 * i) = 256 ^ i := by rw [Nat.pow_mul]
theorem shr8 (n s : Int) (i : Nat) (h0 : 0 ≤ n) (hi : i < 8) (hs : s = 8 * (i : Int)) : n.fdiv ((2 : Int) ^ min s.toNat IntKind.u64.bits) = ((n.toNat / 256 ^ i : Nat) : Int) := by
  have e : min s.toNat IntKind.u64.bits = 8 * i := by
    show min s.toNat 64 = 8 * i
    omega
  rw [e, shr_val n _ h0, pow8]
theorem putL_succ (n i : Nat) : putL n (i + 1) = putL n i ++ [UInt8.ofNat (n / 256 ^ i)] := by
  simp [putL, List.range_succ]
theorem putL_len (n i : Nat) : (putL n i).length = i := by simp [putL]
theorem ofNat_mod (x : Nat) : UInt8.ofNat (x % 256) = UInt8.ofNat x := by
  apply UInt8.toNat_inj.1
  simp
theorem set_mid (A : List UInt8) (m : Nat) (x : UInt8) (h : 0 < m) : (A ++ List.replicate m (0 : UInt8)).set A.length x = A ++ [x] ++ List.replicate (m - 1) 0 := by
  obtain ⟨m, rfl⟩ : ∃ k, m = k + 1 := ⟨m - 1, by omega⟩
  rw [List.set_append_right _ _ (Nat.le_refl _)]
  simp [List.replicate_succ]
theorem or128_nat : ∀ a, a < 256 → a ||| 128 = a % 128 + 128 := by decide +kernel
theorem or128 (x : Nat) (n2 n3 : Int) (h : n2 = (x : Int) % 256) (q : n3 = bits BinOp.or IntKind.u8 n2 128) : n3.toNat = x % 128 + 128 := by
  have h1 : n2 = ((x % 256 : Nat) : Int) := by omega
  have h2 : (128 : Int) = ((128 : Nat) : Int) := rfl
  rw [q, h1, h2, u8_or_nat (x % 256) 128 (by omega) (by decide), Int.toNat_natCast, or128_nat _ (by omega)]
  omega
theorem small_step (n k : Nat) (h : n < 2 ^ (64 - 7 * k)) (h1 : 127 < n) (hk : k < 10) : k ≤ 8 ∧ n / 128 < 2 ^ (64 - 7 * (k + 1)) := by
  rcases k with _ | _ | _ | _ | _ | _ | _ | _ | _ | _ | k <;> simp at h ⊢ <;> omega
theorem getL_append (a : List UInt8) (x : UInt8) : getL (a ++ [x]) = getL a + x.toNat * 256 ^ a.length := by
  induction a with
  | nil => simp [getL]
  | cons y r ih =>
    simp only [List.cons_append, getL, ih, List.length_cons, Nat.pow_succ]
    rw [Nat.mul_add, ← Nat.add_assoc, Nat.mul_comm (256 ^ r.length) 256, Nat.mul_left_comm]
theorem getL_lt (a : List UInt8) : getL a < 256 ^ a.length := by
  induction a with
  | nil => simp [getL]
  | cons y r ih =>
    have := y.toNat_lt
    simp only [getL, List.length_cons, Nat.pow_succ]
    omega
theorem or64 (a b i : Nat) (ha : a < 2 ^ i) (hb : b * 2 ^ i + a < 18446744073709551616) : bits BinOp.or IntKind.u64 (a : Int) ((b * 2 ^ i : Nat) : Int) = ((a + b * 2 ^ i : Nat) : Int) := by
  rw [u64_or_nat a _ (by omega) (by omega), Nat.or_comm, Nat.mul_comm b, ← Nat.two_pow_add_eq_or_of_lt ha b, Nat.add_comm]
theorem shl_val (x i : Nat) (s : Int) (b : Nat) (hs : s = (i : Int)) (hi : i ≤ b) (hx : x * 2 ^ i < 18446744073709551616) : (x : Int) * (2 : Int) ^ min s.toNat b % 18446744073709551616 = ((x * 2 ^ i : Nat) : Int) := by
  have e : min s.toNat b = i := by omega
  have e2 : (x : Int) * (2 : Int) ^ i = ((x * 2 ^ i : Nat) : Int) := by simp
  rw [e, e2]
  omega
theorem byte_room (x i : Nat) (hx : x ≤ 255) (hi : i < 8) : x * 2 ^ (8 * i) + 2 ^ (8 * i) ≤ 18446744073709551616 := by
  rcases i with _ | _ | _ | _ | _ | _ | _ | _ | i <;> first | omega | simp <;> omega
theorem pow7 (i : Nat) : 2 ^ (7 * i) = 128 ^ i := by rw [Nat.pow_mul]
theorem room7 (x i : Nat) (hx : x ≤ 255) (hi : i ≤ 9) (h : ¬ (i = 9 ∧ 1 < x)) : x % 128 * 2 ^ (7 * i) + 2 ^ (7 * i) ≤ 18446744073709551616 := by
  rcases i with _ | _ | _ | _ | _ | _ | _ | _ | _ | _ | i <;> simp at h ⊢ <;> omega
theorem or7 (acc x i : Nat) (n4 n5 n6 n7 : Int) (hx : x ≤ 255) (hi : i ≤ 9) (h : ¬ (i = 9 ∧ 1 < x)) (ha : acc < 128 ^ i) (h4 : n4 = ((x % 128 : Nat) : Int)) (h5 : n5 = 7 * (i : Int))
    (h6 : n6 = n4 * (2 : Int) ^ min n5.toNat IntKind.u64.bits % 18446744073709551616) (h7 : n7 = bits BinOp.or IntKind.u64 (acc : Int) n6) : n7 = ((acc + x % 128 * 128 ^ i : Nat) : Int) := by
  have r := room7 x i hx hi h
  rw [← pow7] at ha ⊢
  rw [h7, h6, h4, shl_val _ (7 * i) n5 _ (by omega) (by show 7 * i ≤ 64; omega) (by omega), or64 _ _ _ ha (by omega)]
theorem read_at (xs : List UInt8) (i acc : Nat) (h : i < xs.length) : readG i acc (xs.drop i) = if i = 9 ∧ 1 < (xs.getD i 0).toNat then (0, 0, 8) else
      if (xs.getD i 0).toNat < 128 then (if (xs.getD i 0).toNat = 0 ∧ 0 < i then (0, 0, 8) else (acc + (xs.getD i 0).toNat % 128 * 128 ^ i, i + 1, 0))
      else readG (i + 1) (acc + (xs.getD i 0).toNat % 128 * 128 ^ i) (xs.drop (i + 1)) := by
  rw [List.drop_eq_getElem_cons h]
  have : xs.getD i 0 = xs[i] := by simp [List.getD, h]
  rw [this, readG]
theorem getL_putL (n w : Nat) : getL (putL n w) = n % 256 ^ w := by
  induction w with
  | zero => simp [putL, getL, Nat.mod_one]
  | succ w ih =>
    rw [putL_succ, getL_append, ih, putL_len, Nat.mod_pow_succ]
    have : (UInt8.ofNat (n / 256 ^ w)).toNat = n / 256 ^ w % 256 := by simp
    rw [this, Nat.mul_comm (256 ^ w)]
theorem read_small : ∀ (f i acc m : Nat) (rest : List UInt8), f + i = 10 → 0 < f → m < 2 ^ (64 - 7 * i) → (0 < i → 0 < m) → readG i acc (smallF f m ++ rest) = (acc + m * 128 ^ i, i + (smallF f m).length, 0)
  | 0, _, _, _, _, _, h, _, _ => absurd h (by decide)
  | f + 1, i, acc, m, rest, hf, _, hm, h0 => by
    unfold smallF
    by_cases h : m < 128
    · rw [if_pos h]
      have e : (UInt8.ofNat m).toNat = m := by simp; omega
      simp only [List.cons_append, List.nil_append, readG, e]
      rw [if_neg (by
        rintro ⟨rfl, h2⟩
        have : m < 2 := hm
        omega), if_pos h, if_neg (by rintro ⟨h1, h2⟩; have := h0 h2; omega), Nat.mod_eq_of_lt h]
      simp
    · rw [if_neg h]
      have e : (UInt8.ofNat (m % 128 + 128)).toNat = m % 128 + 128 := by simp; omega
      obtain ⟨s1, s2⟩ := small_step m i hm (by omega) (by omega)
      simp only [List.cons_append, readG, e]
      rw [if_neg (by rintro ⟨rfl, -⟩; omega), if_neg (by omega), read_small f (i + 1) _ (m / 128) rest (by omega) (by omega) s2 (fun _ => by omega)]
      have e2 : (m % 128 + 128) % 128 = m % 128 := by omega
      have e3 : m % 128 * 128 ^ i + m / 128 * 128 ^ (i + 1) = m * 128 ^ i := by
        rw [Nat.pow_succ, Nat.mul_comm (128 ^ i) 128, ← Nat.mul_assoc, ← Nat.add_mul]
        congr 1
        omega
      rw [e2, Nat.add_assoc, e3]
      simp
      omega
def valL : List UInt8 → Nat
  | [] => 0
  | x :: r => x.toNat % 128 + 128 * valL r
def hiB (xs : List UInt8) (k : Nat) : Prop := ∀ j, j < k → 128 ≤ (xs.getD j 0).toNat
theorem read_out : ∀ (xs : List UInt8) (i acc : Nat), i ≤ 9 → (readG i acc xs = (0, 0, 8)) ∨ ∃ m j, readG i acc xs = (acc + m * 128 ^ i, i + j, 0) ∧ 1 ≤ j ∧ j ≤ xs.length ∧ i + j ≤ 10 ∧ smallF (10 - i) m = xs.take j ∧ (0 < i → 0 < m)
  | [], i, acc, _ => .inl rfl
  | x :: r, i, acc, hi => by
    have hx := x.toNat_lt
    unfold readG
    by_cases h1 : i = 9 ∧ 1 < x.toNat
    · rw [if_pos h1]; exact .inl rfl
    · rw [if_neg h1]
      by_cases h2 : x.toNat < 128
      · rw [if_pos h2]
        by_cases h3 : x.toNat = 0 ∧ 0 < i
        · rw [if_pos h3]; exact .inl rfl
        · rw [if_neg h3]
          refine .inr ⟨x.toNat, 1, ?_, Nat.le_refl _, by simp, by omega, ?_, fun h => by omega⟩
          · rw [Nat.mod_eq_of_lt h2]
          · rw [show 10 - i = (9 - i) + 1 by omega, smallF, if_pos h2]
            simp
      · rw [if_neg h2]
        have hi8 : i ≤ 8 := by omega
        rcases read_out r (i + 1) (acc + x.toNat % 128 * 128 ^ i) (by omega) with h | ⟨m, j, e, h3, h4, h5, h6, h7⟩
        · exact .inl h
        · refine .inr ⟨x.toNat % 128 + 128 * m, j + 1, ?_, by omega, by simp; omega, by omega, ?_, fun _ => by have := h7 (by omega); omega⟩
          · rw [e]
            refine Prod.ext ?_ (Prod.ext (by dsimp only; omega) rfl)
            dsimp only
            rw [Nat.add_mul, Nat.pow_succ, Nat.mul_comm (128 ^ i) 128, ← Nat.mul_assoc, Nat.mul_comm 128 m, Nat.add_assoc]
          · have hm := h7 (by omega)
            rw [show 10 - i = (10 - (i + 1)) + 1 by omega, smallF, if_neg (by omega), show (x.toNat % 128 + 128 * m) / 128 = m by omega, h6, show (x.toNat % 128 + 128 * m) % 128 + 128 = x.toNat by omega]
            simp
structure hiS (xs : List UInt8) (k : Nat) : Prop where
  out : hiB xs k
structure okR (xs : List UInt8) (k : Nat) : Prop where
  hi : hiB xs k
  lo : (xs.getD k 0).toNat < 128
  nine : ¬ (k = 9 ∧ 1 < (xs.getD k 0).toNat)
  zero : ¬ (0 < k ∧ (xs.getD k 0).toNat = 0)
theorem valL_drop {xs : List UInt8} {j : Nat} (h : j < xs.length) : valL (xs.drop j) = (xs.getD j 0).toNat % 128 + 128 * valL (xs.drop (j + 1)) := by
  rw [List.drop_eq_getElem_cons h, valL]
  simp [List.getD, h]
theorem valL_lt : ∀ (xs : List UInt8), valL xs < 128 ^ xs.length
  | [] => by simp [valL]
  | x :: r => by
    have := valL_lt r
    simp only [valL, List.length_cons, Nat.pow_succ]
    omega
theorem getL_drop {xs : List UInt8} {j : Nat} (h : j < xs.length) : getL (xs.drop j) = (xs.getD j 0).toNat + 256 * getL (xs.drop (j + 1)) := by
  rw [List.drop_eq_getElem_cons h, getL]
  simp [List.getD, h]
theorem read_val : ∀ (k i acc : Nat) (xs : List UInt8), i + k ≤ 9 → k < xs.length → (∀ j, j < k → 128 ≤ (xs.getD j 0).toNat) → (xs.getD k 0).toNat < 128 → ¬ (i + k = 9 ∧ 1 < (xs.getD k 0).toNat) → ¬ (0 < i + k ∧ (xs.getD k 0).toNat = 0) →
    readG i acc xs = (acc + valL (xs.take (k + 1)) * 128 ^ i, i + k + 1, 0)
  | _, _, _, [], _, h, _, _, _, _ => by simp at h
  | 0, i, acc, x :: r, hi, hk, _, h1, h2, h3 => by
    have e : (x :: r).getD 0 0 = x := rfl
    rw [e] at h1 h2 h3
    simp only [Nat.add_zero] at h2 h3
    unfold readG
    rw [if_neg h2, if_pos h1, if_neg (by rintro ⟨a, b⟩; exact h3 ⟨b, a⟩)]
    simp [valL]
  | k + 1, i, acc, x :: r, hi, hk, hh, h1, h2, h3 => by
    have e : ∀ j, (x :: r).getD (j + 1) 0 = r.getD j 0 := fun j => by simp [List.getD]
    have h0 := hh 0 (by omega)
    have e0 : (x :: r).getD 0 0 = x := rfl
    rw [e0] at h0
    rw [e] at h1 h2 h3
    unfold readG
    rw [if_neg (by omega), if_neg (by omega), read_val k (i + 1) _ r (by omega) (by simpa using hk) (fun j hj => by have := hh (j + 1) (by omega); rw [e] at this; exact this) h1 (by rw [show i + 1 + k = i + (k + 1) by omega]; exact h2) (by rw [show i + 1 + k = i + (k + 1) by omega]; exact h3)]
    refine Prod.ext ?_ (Prod.ext (by dsimp only; omega) rfl)
    dsimp only
    rw [List.take_succ_cons, valL, Nat.add_mul, Nat.pow_succ, Nat.mul_comm (128 ^ i) 128, ← Nat.mul_assoc, Nat.mul_comm 128 (valL _), Nat.add_assoc]
theorem read_okR {xs : List UInt8} {k : Nat} (h : okR xs k) (hk : k < xs.length) (h9 : k ≤ 9) : readG 0 0 xs = (valL (xs.take (k + 1)), k + 1, 0) := by
  rw [read_val k 0 0 xs (by omega) hk h.hi h.lo (by rw [Nat.zero_add]; exact h.nine) (by rw [Nat.zero_add]; exact h.zero)]
  simp
theorem read_bad : ∀ (k i acc : Nat) (xs : List UInt8), i + k ≤ 10 → k ≤ xs.length → (∀ j, j < k → 128 ≤ (xs.getD j 0).toNat) → (i + k = 10 ∨ k = xs.length ∨ (k < xs.length ∧ i + k = 9 ∧ 1 < (xs.getD k 0).toNat) ∨ (k < xs.length ∧ (xs.getD k 0).toNat < 128 ∧ 0 < i + k ∧ (xs.getD k 0).toNat = 0)) → 0 < k ∨ i + k < 10 → readG i acc xs = (0, 0, 8)
  | _, _, _, [], _, _, _, _, _ => rfl
  | 0, i, acc, x :: r, hi, hk, _, h, h' => by
    have e : (x :: r).getD 0 0 = x := rfl
    simp only [e, Nat.add_zero, List.length_cons] at h
    unfold readG
    rcases h with h | h | ⟨-, h1, h2⟩ | ⟨-, h1, h2, h3⟩
    · omega
    · omega
    · rw [if_pos ⟨h1, h2⟩]
    · by_cases c : i = 9 ∧ 1 < x.toNat
      · rw [if_pos c]
      · rw [if_neg c, if_pos h1, if_pos ⟨h3, h2⟩]
  | k + 1, i, acc, x :: r, hi, hk, hh, h, _ => by
    have e : ∀ j, (x :: r).getD (j + 1) 0 = r.getD j 0 := fun j => by simp [List.getD]
    have h0 := hh 0 (by omega)
    have e0 : (x :: r).getD 0 0 = x := rfl
    rw [e0] at h0
    simp only [e, List.length_cons] at h hk
    unfold readG
    by_cases c : i = 9 ∧ 1 < x.toNat
    · rw [if_pos c]
    · rw [if_neg c, if_neg (by omega)]
      by_cases c2 : 0 < k ∨ i + 1 + k < 10
      · exact read_bad k (i + 1) _ r (by omega) (by omega) (fun j hj => by have := hh (j + 1) (by omega); rw [e] at this; exact this) (by omega) c2
      · omega
theorem take_get {xs : List UInt8} {n j : Nat} (h : j < n) : (xs.take n).getD j 0 = xs.getD j 0 := by
  simp [List.getD, List.getElem?_take, h]
theorem val_room {xs : List UInt8} {k : Nat} (h : okR xs k) (hk : k < xs.length) (h9 : k ≤ 9) : ∀ (d j : Nat), j + d = k + 1 → valL ((xs.take (k + 1)).drop j) < 2 ^ (64 - 7 * j)
  | 0, j, e => by
    rw [List.drop_eq_nil_of_le (by simp; omega)]
    exact Nat.pow_pos (by decide)
  | d + 1, j, e => by
    have ih := val_room h hk h9 d (j + 1) (by omega)
    rw [valL_drop (by simp; omega), take_get (by omega)]
    by_cases e9 : j = 9
    · subst e9
      have e2 : k = 9 := by omega
      subst e2
      have ih : valL (List.drop 10 (List.take 10 xs)) < 1 := ih
      have hn := h.nine
      show _ < 2
      have e3 : valL (List.drop (9 + 1) (List.take (9 + 1) xs)) = 0 := by
        show valL (List.drop 10 (List.take 10 xs)) = 0
        omega
      rw [e3]
      omega
    · have p : 2 ^ (64 - 7 * j) = 128 * 2 ^ (64 - 7 * (j + 1)) := by
        rw [show 64 - 7 * j = (64 - 7 * (j + 1)) + 7 by omega, Nat.pow_add, Nat.mul_comm]
      rw [p]
      omega
theorem read_only (xs : List UInt8) : (readG 0 0 xs = (0, 0, 8)) ∨ ∃ m j, readG 0 0 xs = (m, j, 0) ∧ 1 ≤ j ∧ j ≤ xs.length ∧ j ≤ 10 ∧ smallL m = xs.take j := by
  rcases read_out xs 0 0 (by omega) with h | ⟨m, j, e, h1, h2, h3, h4, -⟩
  · exact .inl h
  · refine .inr ⟨m, j, ?_, h1, h2, by omega, h4⟩
    rw [e]; simp
end Go.Rw
