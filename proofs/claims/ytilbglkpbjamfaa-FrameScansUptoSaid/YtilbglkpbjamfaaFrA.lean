import Derived.Test.YtilbglkpbjamfaaRwA
namespace Go.Fr
open Go Go.Eng Go.Rw
set_option linter.unusedVariables false
set_option linter.unusedSimpArgs false
def T : List Nat := [0, 0x1db71064, 0x3b6e20c8, 0x26d930ac, 0x76dc4190, 0x6b6b51f4, 0x4db26158, 0x5005713c, 0xedb88320, 0xf00f9344, 0xd6d6a3e8, 0xcb61b38c, 0x9b64c2b0, 0x86d3d2d4, 0xa00ae278, 0xbdbdf21c]
def tabL : List UInt32 := T.map UInt32.ofNat
def nib (r x : Nat) : Nat := (r / 16) ^^^ T.getD ((r ^^^ x) % 16) 0
def stp (r b : Nat) : Nat := nib (nib r b) (b / 16)
def crc (r : Nat) (xs : List UInt8) : Nat := xs.foldl (fun r x => stp r x.toNat) r
def sumN (xs : List UInt8) : Nat := 4294967295 - crc 4294967295 xs
theorem T_lt : ∀ k : Fin 16, T.getD k.val 0 < 4294967296 := by decide +kernel
theorem T_get {k : Nat} (h : k < 16) : T.getD k 0 < 4294967296 := T_lt ⟨k, h⟩
theorem nib_lt {r x : Nat} (h : r < 4294967296) : nib r x < 4294967296 := by
  have h1 : r / 16 < 2 ^ 32 := by show r / 16 < 4294967296; omega
  have h2 : T.getD ((r ^^^ x) % 16) 0 < 2 ^ 32 := T_get (Nat.mod_lt _ (by decide))
  exact Nat.xor_lt_two_pow h1 h2
theorem stp_lt {r b : Nat} (h : r < 4294967296) : stp r b < 4294967296 := nib_lt (nib_lt h)
theorem crc_lt : ∀ (xs : List UInt8) {r : Nat}, r < 4294967296 → crc r xs < 4294967296
  | [], r, h => h
  | x :: xs, r, h => crc_lt xs (r := stp r x.toNat) (stp_lt h)
theorem sumN_lt (xs : List UInt8) : sumN xs < 4294967296 := by unfold sumN; omega
theorem crc_app (r : Nat) (a b : List UInt8) : crc r (a ++ b) = crc (crc r a) b := by unfold crc; rw [List.foldl_append]
theorem take_step {α : Type} (l : List α) (d : α) {i : Nat} (h : i < l.length) : l.take (i + 1) = l.take i ++ [l.getD i d] := by
  rw [List.take_add_one, List.getElem?_eq_getElem h, List.getD_eq_getElem?_getD, List.getElem?_eq_getElem h]; rfl
theorem crc_step {xs : List UInt8} {i : Nat} (h : i < xs.length) : crc 4294967295 (xs.take (i + 1)) = stp (crc 4294967295 (xs.take i)) (xs.getD i 0).toNat := by
  rw [take_step xs 0 h, crc_app]; rfl
/-! Another byte, another sum. -/
theorem top : ∀ i j : Fin 16, T.getD i.val 0 / 268435456 = T.getD j.val 0 / 268435456 → i = j := by decide +kernel
theorem top_n {i j : Nat} (hi : i < 16) (hj : j < 16) (h : T.getD i 0 / 268435456 = T.getD j 0 / 268435456) : i = j := congrArg Fin.val (top ⟨i, hi⟩ ⟨j, hj⟩ h)
theorem shr_xor (a b : Nat) : (a ^^^ b) / 268435456 = (a / 268435456) ^^^ (b / 268435456) := by
  have := Nat.shiftRight_xor_distrib (a := a) (b := b) (i := 28)
  simp only [Nat.shiftRight_eq_div_pow] at this
  exact this
theorem mod_xor (a b : Nat) : (a ^^^ b) % 16 = (a % 16) ^^^ (b % 16) := Nat.xor_mod_two_pow (n := 4)
theorem xor_cancel {a b c : Nat} (h : a ^^^ c = b ^^^ c) : a = b := by
  have := congrArg (· ^^^ c) h
  simp only [Nat.xor_assoc, Nat.xor_self, Nat.xor_zero] at this
  exact this
theorem nib_eq {r s x y : Nat} (hr : r < 4294967296) (hs : s < 4294967296) (h : nib r x = nib s y) : (r ^^^ x) % 16 = (s ^^^ y) % 16 ∧ r / 16 = s / 16 := by
  unfold nib at h
  have h1 := congrArg (· / 268435456) h
  rw [shr_xor, shr_xor, Nat.div_div_eq_div_mul, Nat.div_div_eq_div_mul, Nat.div_eq_of_lt (show r < 16 * 268435456 by omega), Nat.div_eq_of_lt (show s < 16 * 268435456 by omega), Nat.zero_xor, Nat.zero_xor] at h1
  have e := top_n (Nat.mod_lt _ (by decide)) (Nat.mod_lt _ (by decide)) h1
  rw [e] at h
  exact ⟨e, xor_cancel h⟩
theorem eq_of16 {a b : Nat} (h1 : a % 16 = b % 16) (h2 : a / 16 = b / 16) : a = b := by omega
theorem nib_inj {r s x : Nat} (hr : r < 4294967296) (hs : s < 4294967296) (h : nib r x = nib s x) : r = s := by
  obtain ⟨h1, h2⟩ := nib_eq hr hs h
  rw [mod_xor, mod_xor] at h1
  exact eq_of16 (xor_cancel h1) h2
theorem stp_inj {r s b : Nat} (hr : r < 4294967296) (hs : s < 4294967296) (h : stp r b = stp s b) : r = s := nib_inj hr hs (nib_inj (nib_lt hr) (nib_lt hs) h)
theorem crc_inj : ∀ (xs : List UInt8) {r s : Nat}, r < 4294967296 → s < 4294967296 → crc r xs = crc s xs → r = s
  | [], r, s, _, _, h => h
  | x :: xs, r, s, hr, hs, h => stp_inj hr hs (crc_inj xs (r := stp r x.toNat) (s := stp s x.toNat) (stp_lt hr) (stp_lt hs) h)
theorem stp_byte {r a b : Nat} (hr : r < 4294967296) (ha : a < 256) (hb : b < 256) (h : stp r a = stp r b) : a = b := by
  obtain ⟨h1, h2⟩ := nib_eq (nib_lt hr) (nib_lt hr) h
  -- the first half's index is the same, by the upper bits
  have h3 : (r ^^^ a) % 16 = (r ^^^ b) % 16 := by
    unfold nib at h2
    have h4 := congrArg (· / 16777216) h2
    have e : ∀ k : Nat, ((r / 16) ^^^ k) / 16 / 16777216 = k / 268435456 := fun k => by
      rw [Nat.div_div_eq_div_mul]
      show ((r / 16) ^^^ k) / 268435456 = _
      rw [shr_xor, Nat.div_div_eq_div_mul, Nat.div_eq_of_lt (show r < 16 * 268435456 by omega), Nat.zero_xor]
    simp only [e] at h4
    exact top_n (Nat.mod_lt _ (by decide)) (Nat.mod_lt _ (by decide)) h4
  have h5 : a % 16 = b % 16 := by
    rw [mod_xor, mod_xor, Nat.xor_comm (r % 16), Nat.xor_comm (r % 16)] at h3
    exact xor_cancel h3
  have h6 : nib r a = nib r b := by unfold nib; rw [h3]
  rw [h6, mod_xor, mod_xor, Nat.xor_comm (nib r b % 16), Nat.xor_comm (nib r b % 16)] at h1
  have h7 := xor_cancel h1
  omega
/-- One byte turned turns the sum. -/
theorem sum_turned (a b : List UInt8) {x y : UInt8} (h : x ≠ y) : sumN (a ++ x :: b) ≠ sumN (a ++ y :: b) := fun e => by
  unfold sumN at e
  have l1 := crc_lt (a ++ x :: b) (r := 4294967295) (by decide)
  have l2 := crc_lt (a ++ y :: b) (r := 4294967295) (by decide)
  have e2 : crc 4294967295 (a ++ x :: b) = crc 4294967295 (a ++ y :: b) := by omega
  rw [crc_app, crc_app] at e2
  have hr := crc_lt a (r := 4294967295) (by decide)
  have e3 : stp (crc 4294967295 a) x.toNat = stp (crc 4294967295 a) y.toNat := crc_inj b (stp_lt hr) (stp_lt hr) e2
  exact h (UInt8.toNat_inj.1 (stp_byte hr x.toNat_lt y.toNat_lt e3))
/-! A message's inside, and what is one. -/
def core (kd sq : Int) (bo : List UInt8) : List UInt8 := UInt8.ofNat kd.toNat :: (putL sq.toNat 4 ++ bo)
def ins (kd sq : Int) (bo : List UInt8) : List UInt8 := core kd sq bo ++ putL (sumN (core kd sq bo)) 4
def okO (b : List UInt8) : Prop := 9 ≤ b.length ∧ b.length ≤ 521 ∧ sumN (b.take (b.length - 4)) = getL (b.drop (b.length - 4))
instance (b) : Decidable (okO b) := by unfold okO; infer_instance
def oK (b : List UInt8) : Int := ((b.getD 0 0).toNat : Int)
def oS (b : List UInt8) : Int := (getL ((b.drop 1).take 4) : Int)
def oB (b : List UInt8) : List UInt8 := (b.take (b.length - 4)).drop 5
def stf (b : List UInt8) : List UInt8 := b.flatMap fun x => if x = 125 ∨ x = 126 then [125, x - 32] else [x]
/-- Bytes made bare: what is told so far, and is a sign open? -/
def bstep : Option (Bool × List UInt8) → UInt8 → Option (Bool × List UInt8)
  | none, _ => none
  | some (s, o), x => if (s = true ∧ x ≠ 93 ∧ x ≠ 94) ∨ x = 126 then none else if s = true then some (false, o ++ [x + 32]) else if x = 125 then some (true, o) else some (false, o ++ [x])
def bfold (b : List UInt8) : Option (Bool × List UInt8) := b.foldl bstep (some (false, []))
def bare (b : List UInt8) : Option (List UInt8) := match bfold b with
  | some (false, o) => some o
  | _ => none
end Go.Fr
namespace Go.Fr
open Go Go.Eng Go.Rw
set_option linter.unusedVariables false
set_option linter.unusedSimpArgs false
theorem tab_get : ∀ k : Fin 16, (tabL.getD k.val 0).toNat = T.getD k.val 0 := by decide +kernel
theorem nib_v {r x : Nat} {n9 n12 n15 n18 n21 n24 : Int} (h9 : n9 = (r : Int) / 16) (h12 : n12 = (x : Int)) (h15 : n15 = (((r : Int).toNat ^^^ n12.toNat : Nat) : Int)) (h18 : n18 = n15 % 16) (h21 : n21 = ((tabL.getD n18.toNat (0 : UInt32)).toNat : Int)) (h24 : n24 = ((n9.toNat ^^^ n21.toNat : Nat) : Int)) : n24 = ((nib r x : Nat) : Int) := by
  have e : n18.toNat = (r ^^^ x) % 16 := by
    rw [h18, h15, h12, Int.toNat_natCast, Int.toNat_natCast]; omega
  have hlt : (r ^^^ x) % 16 < 16 := Nat.mod_lt _ (by decide)
  have t := tab_get ⟨(r ^^^ x) % 16, hlt⟩
  dsimp only at t
  rw [h24, h21, e, t, Int.toNat_natCast, h9, show ((r : Int) / 16).toNat = r / 16 by omega]
  rfl
theorem not32 {r : Nat} (h : r < 4294967296) : 4294967295 ^^^ r = 4294967295 - r := by
  have e := congrArg BitVec.toNat (BitVec.xor_allOnes (x := BitVec.ofNat 32 r))
  rw [BitVec.toNat_xor, BitVec.toNat_not, BitVec.toNat_allOnes, BitVec.toNat_ofNat, Nat.mod_eq_of_lt (show r < 2 ^ 32 from h)] at e
  rw [Nat.xor_comm]
  exact e
theorem stf_step {b : List UInt8} {i : Nat} (h : i < b.length) : stf (b.take (i + 1)) = stf (b.take i) ++ if b.getD i 0 = 125 ∨ b.getD i 0 = 126 then [125, b.getD i 0 - 32] else [b.getD i 0] := by
  rw [take_step b 0 h]
  unfold stf
  rw [List.flatMap_append, List.flatMap_singleton]
theorem byte_is {x : UInt8} {n : Nat} (hn : n < 256) (h : x.toNat = n) : x = UInt8.ofNat n := by
  apply UInt8.toNat_inj.1
  rw [h, UInt8.toNat_ofNat', Nat.mod_eq_of_lt (show n < 2 ^ 8 from hn)]
theorem sub32 {x : UInt8} {n9 n14 : Int} (h9 : n9 = (x.toNat : Int)) (h : n9 = 125 ∨ n9 = 126) (h14 : n14 = (n9 - 32) % 256) : UInt8.ofNat n14.toNat = x - 32 ∧ (x = 125 ∨ x = 126) := by
  rcases h with h | h
  · have e : x = 125 := byte_is (n := 125) (by decide) (by omega)
    subst e
    have : n14 = 93 := by omega
    subst this
    exact ⟨by decide, .inl rfl⟩
  · have e : x = 126 := byte_is (n := 126) (by decide) (by omega)
    subst e
    have : n14 = 94 := by omega
    subst this
    exact ⟨by decide, .inr rfl⟩
theorem notE {x : UInt8} {n9 : Int} (h9 : n9 = (x.toNat : Int)) (h : n9 ≠ 125 ∧ n9 ≠ 126) : ¬ (x = 125 ∨ x = 126) := by
  rintro (e | e)
  · subst e; exact h.1 h9
  · subst e; exact h.2 h9
theorem bfold_step {b : List UInt8} {i : Nat} {s : Bool × List UInt8} (h : i < b.length) (hb : bfold (b.take i) = some s) : bfold (b.take (i + 1)) = bstep (some s) (b.getD i 0) := by
  rw [take_step b 0 h]
  unfold bfold at hb ⊢
  rw [List.foldl_append, hb]; rfl
theorem bfold_none : ∀ (b : List UInt8), b.foldl bstep none = none
  | [] => rfl
  | _ :: b => bfold_none b
theorem bare_none {b : List UInt8} {i : Nat} {s : Bool × List UInt8} (h : i < b.length) (hb : bfold (b.take i) = some s) (hx : bstep (some s) (b.getD i 0) = none) : bare b = none := by
  have e := bfold_step h hb
  rw [hx] at e
  have f : bfold b = none := by
    unfold bfold at e ⊢
    rw [← List.take_append_drop (i + 1) b, List.foldl_append, e]
    exact bfold_none _
  unfold bare
  rw [f]
theorem bstep_eq (s : Bool) (o : List UInt8) (x : UInt8) : bstep (some (s, o)) x = if (s = true ∧ x ≠ 93 ∧ x ≠ 94) ∨ x = 126 then none else if s = true then some (false, o ++ [x + 32]) else if x = 125 then some (true, o) else some (false, o ++ [x]) := rfl
theorem bst_bad {x : UInt8} {n : Int} {s : Bool} {o : List UInt8} (hx : n = (x.toNat : Int)) (h : ((s = true ∧ n ≠ 93) ∧ n ≠ 94) ∨ n = 126) : bstep (some (s, o)) x = none := by
  rw [bstep_eq, if_pos]
  rcases h with h | h
  · exact .inl ⟨h.1.1, fun e => h.1.2 (by rw [hx, e]; rfl), fun e => h.2 (by rw [hx, e]; rfl)⟩
  · exact .inr (byte_is (n := 126) (by decide) (by omega))
theorem bst_sgn {x : UInt8} {n n28 : Int} {s : Bool} {o : List UInt8} (hx : n = (x.toNat : Int)) (hs : s = true) (h : s = true → n ≠ 93 → n = 94) (h28 : n28 = (n + 32) % 256) : bstep (some (s, o)) x = some (false, o ++ [UInt8.ofNat n28.toNat]) := by
  have hn : x = 93 ∨ x = 94 := by
    by_cases e : n = 93
    · exact .inl (byte_is (n := 93) (by decide) (by omega))
    · exact .inr (byte_is (n := 94) (by decide) (by have := h hs e; omega))
  subst hs
  rcases hn with e | e
  · subst e
    have : n28 = 125 := by rw [h28, hx]; rfl
    subst this; rfl
  · subst e
    have : n28 = 126 := by rw [h28, hx]; rfl
    subst this; rfl
theorem bst_125 {x : UInt8} {n : Int} {s : Bool} {o : List UInt8} (hx : n = (x.toNat : Int)) (hs : s = false) (h : n = 125) : bstep (some (s, o)) x = some (true, o) := by
  have e : x = 125 := byte_is (n := 125) (by decide) (by omega)
  subst e; subst hs
  rfl
theorem bst_oth {x : UInt8} {n : Int} {s : Bool} {o : List UInt8} (hx : n = (x.toNat : Int)) (hs : s = false) (h1 : n ≠ 125) (h2 : n ≠ 126) : bstep (some (s, o)) x = some (s, o ++ [UInt8.ofNat n.toNat]) := by
  subst hs
  have e1 : x ≠ 125 := fun e => by subst e; exact h1 hx
  have e2 : x ≠ 126 := fun e => by subst e; exact h2 hx
  rw [bstep_eq, if_neg (by simp [e2]), if_neg (by decide), if_neg e1, hx, Int.toNat_natCast, UInt8.ofNat_toNat]
end Go.Fr
