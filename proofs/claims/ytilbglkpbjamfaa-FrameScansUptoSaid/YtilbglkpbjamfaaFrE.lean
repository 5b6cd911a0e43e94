import Derived.Test.YtilbglkpbjamfaaFrA
namespace Go.Fr
open Go Go.Eng Go.Rw
set_option linter.unusedVariables false
set_option linter.unusedSimpArgs false
theorem putL_cons (n w : Nat) : putL n (w + 1) = UInt8.ofNat n :: putL (n / 256) w := by
  unfold putL
  rw [List.range_succ_eq_map, List.map_cons, List.map_map]
  congr 1
  · simp
  · apply List.map_congr_left
    intro i _
    simp only [Function.comp]
    rw [Nat.pow_succ, Nat.mul_comm, ← Nat.div_div_eq_div_mul]
theorem putL_getL : ∀ (d : List UInt8), putL (getL d) d.length = d
  | [] => rfl
  | x :: d => by
    rw [List.length_cons, putL_cons]
    have hx := x.toNat_lt
    have e1 : getL (x :: d) = x.toNat + 256 * getL d := rfl
    rw [e1]
    congr 1
    · apply UInt8.toNat_inj.1
      rw [UInt8.toNat_ofNat']
      show (x.toNat + 256 * getL d) % 256 = x.toNat
      omega
    · rw [show (x.toNat + 256 * getL d) / 256 = getL d by omega]
      exact putL_getL d
theorem getL_inj {c d : List UInt8} (hl : c.length = d.length) (h : getL c = getL d) : c = d := by
  rw [← putL_getL c, ← putL_getL d, h, hl]
theorem core_len (kd sq : Int) (bo : List UInt8) : (core kd sq bo).length = 5 + bo.length := by unfold core; simp [putL_len]; omega
theorem ins_len (kd sq : Int) (bo : List UInt8) : (ins kd sq bo).length = 9 + bo.length := by unfold ins; rw [List.length_append, core_len, putL_len]; omega
theorem ins_take (kd sq : Int) (bo : List UInt8) : (ins kd sq bo).take ((ins kd sq bo).length - 4) = core kd sq bo := by
  rw [ins_len]
  unfold ins
  rw [List.take_append_of_le_length (by rw [core_len]; omega), List.take_of_length_le (by rw [core_len]; omega)]
theorem ins_drop (kd sq : Int) (bo : List UInt8) : (ins kd sq bo).drop ((ins kd sq bo).length - 4) = putL (sumN (core kd sq bo)) 4 := by
  rw [ins_len]
  unfold ins
  rw [show 9 + bo.length - 4 = (core kd sq bo).length by rw [core_len]; omega, List.drop_left]
theorem sum_back (xs : List UInt8) : getL (putL (sumN xs) 4) = sumN xs := by
  rw [getL_putL]
  exact Nat.mod_eq_of_lt (sumN_lt xs)
theorem ins_ok (kd sq : Int) {bo : List UInt8} (h : bo.length ≤ 512) : okO (ins kd sq bo) := by
  refine ⟨by rw [ins_len]; omega, by rw [ins_len]; omega, ?_⟩
  rw [ins_take, ins_drop, sum_back]
theorem ins_K {kd : Int} (sq : Int) (bo : List UInt8) (h : 0 ≤ kd ∧ kd ≤ 255) : oK (ins kd sq bo) = kd := by
  show ((UInt8.ofNat kd.toNat).toNat : Int) = kd
  rw [UInt8.toNat_ofNat', Nat.mod_eq_of_lt (show kd.toNat < 256 by omega)]; omega
theorem ins_S (kd : Int) {sq : Int} (bo : List UInt8) (h : 0 ≤ sq ∧ sq ≤ 4294967295) : oS (ins kd sq bo) = sq := by
  unfold oS
  have e : ((ins kd sq bo).drop 1).take 4 = putL sq.toNat 4 := by
    show ((putL sq.toNat 4 ++ bo) ++ _).take 4 = _
    rw [List.append_assoc, List.take_append_of_le_length (by rw [putL_len]; omega), List.take_of_length_le (by rw [putL_len]; omega)]
  rw [e, getL_putL]
  show ((sq.toNat % 4294967296 : Nat) : Int) = sq
  omega
theorem ins_B (kd sq : Int) (bo : List UInt8) : oB (ins kd sq bo) = bo := by
  unfold oB
  rw [ins_take]
  show (putL sq.toNat 4 ++ bo).drop 4 = bo
  have := List.drop_left (l₁ := putL sq.toNat 4) (l₂ := bo)
  rwa [putL_len] at this
theorem of_ok {b : List UInt8} (h : okO b) : ins (oK b) (oS b) (oB b) = b ∧ (oB b).length ≤ 512 := by
  obtain ⟨h1, h2, h3⟩ := h
  have l1 : (b.take (b.length - 4)).length = b.length - 4 := by rw [List.length_take]; omega
  have c : core (oK b) (oS b) (oB b) = b.take (b.length - 4) := by
    unfold core
    have e1 : UInt8.ofNat (oK b).toNat = b.getD 0 0 := by unfold oK; rw [Int.toNat_natCast, UInt8.ofNat_toNat]
    have e2 : putL (oS b).toNat 4 = (b.drop 1).take 4 := by
      unfold oS
      rw [Int.toNat_natCast]
      have := putL_getL ((b.drop 1).take 4)
      rwa [show ((b.drop 1).take 4).length = 4 by rw [List.length_take, List.length_drop]; omega] at this
    rw [e1, e2]
    unfold oB
    match b, h1 with
    | x :: t, h1 =>
      show x :: (t.take 4 ++ ((x :: t).take _).drop 5) = (x :: t).take _
      simp only [List.length_cons] at h1 ⊢
      rw [show t.length + 1 - 4 = (t.length - 4) + 1 by omega, List.take_succ_cons, List.drop_succ_cons]
      congr 1
      have t4 : t.take 4 = (t.take (t.length - 4)).take 4 := by rw [List.take_take]; congr 1; omega
      rw [t4, List.take_append_drop]
  refine ⟨?_, by unfold oB; rw [List.length_drop, l1]; omega⟩
  unfold ins
  rw [c, h3]
  have l2 : (b.drop (b.length - 4)).length = 4 := by rw [List.length_drop]; omega
  have := putL_getL (b.drop (b.length - 4))
  rw [l2] at this
  rw [this, List.take_append_drop]
/-! A byte turned. -/
theorem set_split {α : Type} (l : List α) (d : α) {i : Nat} (h : i < l.length) (y : α) : l.set i y = l.take i ++ y :: l.drop (i + 1) ∧ l = l.take i ++ l.getD i d :: l.drop (i + 1) := by
  refine ⟨by rw [List.set_eq_take_append_cons_drop, if_pos h], ?_⟩
  rw [List.getD_eq_getElem?_getD, List.getElem?_eq_getElem h, Option.getD_some, ← List.drop_eq_getElem_cons h, List.take_append_drop]
theorem turned {kd sq : Int} {bo : List UInt8} {i : Nat} {y : UInt8} (hi : i < (ins kd sq bo).length) (hy : y ≠ (ins kd sq bo).getD i 0) : ¬ okO ((ins kd sq bo).set i y) := by
  rintro ⟨-, -, h⟩
  rw [List.length_set] at h
  have lc := core_len kd sq bo
  have li := ins_len kd sq bo
  have e : (ins kd sq bo).length - 4 = (core kd sq bo).length := by omega
  have ei : ins kd sq bo = core kd sq bo ++ putL (sumN (core kd sq bo)) 4 := rfl
  rw [e] at h
  rcases Nat.lt_or_ge i (core kd sq bo).length with c | c
  · have s : (ins kd sq bo).set i y = (core kd sq bo).set i y ++ putL (sumN (core kd sq bo)) 4 := by rw [ei, List.set_append_left _ _ c]
    have l2 : ((core kd sq bo).set i y).length = (core kd sq bo).length := List.length_set
    rw [s, ← l2, List.take_left, List.drop_left, sum_back] at h
    obtain ⟨s1, s2⟩ := set_split (core kd sq bo) (0 : UInt8) c y
    have hy2 : y ≠ (core kd sq bo).getD i 0 := by
      rw [ei] at hy
      simpa [List.getD_eq_getElem?_getD, List.getElem?_append_left c] using hy
    refine sum_turned ((core kd sq bo).take i) ((core kd sq bo).drop (i + 1)) hy2 ?_
    rw [← s1, ← s2]; exact h
  · have s : (ins kd sq bo).set i y = core kd sq bo ++ (putL (sumN (core kd sq bo)) 4).set (i - (core kd sq bo).length) y := by rw [ei, List.set_append_right _ _ c]
    rw [s, List.take_left, List.drop_left] at h
    have q : i - (core kd sq bo).length < (putL (sumN (core kd sq bo)) 4).length := by rw [putL_len]; omega
    have g := getL_inj (c := (putL (sumN (core kd sq bo)) 4).set (i - (core kd sq bo).length) y) (d := putL (sumN (core kd sq bo)) 4) List.length_set (by rw [← h, sum_back])
    apply hy
    rw [ei, List.getD_eq_getElem?_getD, List.getElem?_append_right c, ← g, List.getElem?_set_self q]; rfl
theorem xor_ne {x : UInt8} {b : Int} (h0 : 0 ≤ b) (h1 : b ≤ 255) (hb : b ≠ 0) : UInt8.ofNat (((x.toNat : Int).toNat ^^^ b.toNat : Nat) : Int).toNat ≠ x := fun e => by
  have e := congrArg UInt8.toNat e
  rw [Int.toNat_natCast, Int.toNat_natCast, UInt8.toNat_ofNat'] at e
  have hx : x.toNat < 2 ^ 8 := x.toNat_lt
  have hb2 : b.toNat < 2 ^ 8 := by show b.toNat < 256; omega
  rw [Nat.mod_eq_of_lt (Nat.xor_lt_two_pow hx hb2)] at e
  have e2 : b.toNat ^^^ x.toNat = 0 ^^^ x.toNat := by rw [Nat.xor_comm, e, Nat.zero_xor]
  have := xor_cancel e2
  omega
/-! Bytes stuffed, and bare again. -/
theorem stf_app (a b : List UInt8) : stf (a ++ b) = stf a ++ stf b := by unfold stf; rw [List.flatMap_append]
theorem stf_one (x : UInt8) : stf [x] = if x = 125 ∨ x = 126 then [125, x - 32] else [x] := by unfold stf; rw [List.flatMap_singleton]
theorem stf_len : ∀ (b : List UInt8), (stf b).length ≤ 2 * b.length
  | [] => by simp [stf]
  | x :: b => by
    have := stf_len b
    have e : stf (x :: b) = stf [x] ++ stf b := stf_app [x] b
    rw [e, stf_one, List.length_append]
    split <;> simp <;> omega
theorem stf_no (b : List UInt8) : ∀ x, x ∈ stf b → x ≠ 126 := by
  intro x hx
  unfold stf at hx
  obtain ⟨y, -, hy⟩ := List.mem_flatMap.1 hx
  split at hy
  · rename_i c
    simp only [List.mem_cons, List.not_mem_nil, or_false] at hy
    rcases hy with rfl | rfl
    · decide
    · rcases c with rfl | rfl <;> decide
  · rename_i c
    simp only [List.mem_cons, List.not_mem_nil, or_false] at hy
    subst hy
    exact fun e => c (.inr e)
theorem stf_at {b : List UInt8} {i : Nat} (h : i < (stf b).length) : (stf b).getD i 0 ≠ 126 := by
  rw [List.getD_eq_getElem?_getD, List.getElem?_eq_getElem h]
  exact stf_no b _ (List.getElem_mem h)
theorem fold_stf : ∀ (b o : List UInt8), (stf b).foldl bstep (some (false, o)) = some (false, o ++ b)
  | [], o => by simp [stf]
  | x :: b, o => by
    have e : stf (x :: b) = stf [x] ++ stf b := stf_app [x] b
    rw [e, stf_one, List.foldl_append]
    have s : List.foldl bstep (some (false, o)) (if x = 125 ∨ x = 126 then [125, x - 32] else [x]) = some (false, o ++ [x]) := by
      split
      · rename_i c
        rcases c with rfl | rfl <;> rfl
      · rename_i c
        show bstep (some (false, o)) x = _
        rw [bstep_eq, if_neg (fun h => by rcases h with h | h; exact absurd h.1 (by decide); exact c (.inr h)), if_neg (by decide), if_neg (fun h => c (.inl h))]
    rw [s, fold_stf b, List.append_assoc]; rfl
theorem bare_stf (b : List UInt8) : bare (stf b) = some b := by
  unfold bare bfold
  rw [fold_stf b []]; rfl
def sg (s : Bool) : List UInt8 := if s = true then [125] else []
theorem fold_back : ∀ (b : List UInt8) (s : Bool) (o : List UInt8) (r : Bool × List UInt8), b.foldl bstep (some (s, o)) = some r → stf r.2 ++ sg r.1 = stf o ++ sg s ++ b
  | [], s, o, r, h => by cases h; simp
  | x :: b, s, o, r, h => by
    rw [List.foldl_cons, bstep_eq] at h
    split at h
    · rw [bfold_none] at h; cases h
    · rename_i c1
      split at h
      · rename_i c2
        have h1 := fold_back b _ _ r h
        rw [h1, c2]
        have hx : x = 93 ∨ x = 94 := by
          rcases Decidable.em (x = 93) with a | a
          · exact .inl a
          · rcases Decidable.em (x = 94) with d | d
            · exact .inr d
            · exact absurd (.inl ⟨c2, a, d⟩) c1
        have e : stf (o ++ [x + 32]) = stf o ++ [125, x] := by
          rw [stf_app, stf_one]
          rcases hx with rfl | rfl <;> rfl
        rw [e]
        simp [sg]
      · rename_i c2
        have hs : s = false := by cases s; rfl; exact absurd rfl c2
        subst hs
        split at h
        · rename_i c3
          have h1 := fold_back b _ _ r h
          rw [h1, c3]
          simp [sg]
        · rename_i c3
          have h1 := fold_back b _ _ r h
          have e : stf (o ++ [x]) = stf o ++ [x] := by
            rw [stf_app, stf_one, if_neg (fun h => by rcases h with h | h; exact c3 h; exact c1 (.inr h))]
          rw [h1, e]
          simp [sg]
theorem bare_back {b u : List UInt8} (h : bare b = some u) : stf u = b := by
  unfold bare at h
  split at h
  · rename_i o e
    cases h
    have := fold_back b false [] (false, u) e
    simpa [sg, stf] using this
  · cases h
theorem stf_ge : ∀ (u : List UInt8), u.length ≤ (stf u).length
  | [] => by simp
  | x :: u => by
    have := stf_ge u
    have e : stf (x :: u) = stf [x] ++ stf u := stf_app [x] u
    rw [e, stf_one, List.length_append, List.length_cons]
    split <;> simp only [List.length_cons, List.length_nil] <;> omega
theorem bare_len {b u : List UInt8} (h : bare b = some u) : u.length ≤ b.length := by
  have := stf_ge u
  rw [bare_back h] at this
  exact this
end Go.Fr
