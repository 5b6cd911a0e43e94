import Derived.Test.YtcccenipmefkiaaRawE
namespace Go.Proofs.Ytcccenipmefkiaa
open Go Go.Eng Go.Proofs
set_option linter.unusedVariables false

theorem smallF_len : ∀ f n, (smallF f n).length ≤ f
  | 0, _ => Nat.le_refl _
  | f + 1, n => by
    unfold smallF
    split
    · simp
    · have := smallF_len f (n / 128)
      simp; omega
theorem small_le (n : Nat) : (smallL n).length ≤ 10 := smallF_len 10 n
theorem read_whole (n : Nat) (rest z : List UInt8) (hn : n < 18446744073709551616) (hz : z = List.take (smallL n).length (smallL n) ++ rest) :
    List.take ((smallL n).length + rest.length) (List.drop 0 z) = smallL n ++ rest ∧ readG 0 0 (smallL n ++ rest) = (n, (smallL n).length, 0) := by
  refine ⟨by rw [hz, List.take_length, List.drop_zero, List.take_of_length_le (by simp)], ?_⟩
  have := read_small 10 0 0 n rest rfl (by decide) hn (fun h => by cases h)
  rw [show smallL n = smallF 10 n from rfl, this]
  simp
theorem putOk_out {n w : Int} (h : putOk n w = true) : 1 ≤ w ∧ w ≤ 8 ∧ n.toNat < 256 ^ w.toNat := by
  unfold putOk at h
  simpa only [decide_eq_true_eq] using h
theorem get_put {n w : Int} (h : putOk n w = true) : List.take w.toNat (List.drop 0 (putL n.toNat w.toNat)) = putL n.toNat w.toNat ∧ getL (putL n.toNat w.toNat) = n.toNat := by
  obtain ⟨_, _, h3⟩ := putOk_out h
  refine ⟨?_, ?_⟩
  · rw [List.drop_zero, List.take_of_length_le (by rw [putL_len]; exact Nat.le_refl _)]
  · rw [getL_putL, Nat.mod_eq_of_lt h3]

theorem back_vc (n : Int) (w : Int) (rest : List UInt8) (h0 : (0 : Int) ≤ n) (h1 : n ≤ (18446744073709551615 : Int)) (k : AV → List (Option Blk) → List Blk → Prop) (hk : k (AV.bool true) [] []) :
  br (decide ((↑rest.length : Int) > (10000 : Int)))
   ((k (AV.bool true) [] []))
   ((
     ((0 : Int) ≤ n) ∧
     (n ≤ (18446744073709551615 : Int))) ∧
    br (putOk n w)
     (br (getOk (List.take w.toNat (List.drop (0 : Nat) (putL n.toNat w.toNat))))
       (br (bif bif (0 : Int) != (0 : Int) then true else (↑(getL (List.take w.toNat (List.drop (0 : Nat) (putL n.toNat w.toNat)))) : Int) != n then true else (↑w.toNat : Int) != w)
         ((k (AV.bool false) [] []))
         ((
           ((0 : Int) ≤ n) ∧
           (n ≤ (18446744073709551615 : Int))) ∧
          (((smallL n.toNat).length + rest.length) * (1 : Nat) ≤ (140737488355328 : Nat)) ∧
          ∀ (z1 : List UInt8),
          (z1 = List.take (smallL n.toNat).length (smallL n.toNat) ++ rest) →
          ((List.take ((smallL n.toNat).length + rest.length) (List.drop (0 : Nat) z1)).length ≤ (1000000 : Nat)) ∧
          br (bif bif true then (↑(readG (0 : Nat) (0 : Nat) (List.take ((smallL n.toNat).length + rest.length) (List.drop (0 : Nat) z1))).snd.snd : Int) == (0 : Int) else false then (↑(readG (0 : Nat) (0 : Nat) (List.take ((smallL n.toNat).length + rest.length) (List.drop (0 : Nat) z1))).fst : Int) == n else false)
           ((
             ((0 : Int) ≤ n) ∧
             (n ≤ (18446744073709551615 : Int))) ∧
            (k (AV.bool (bif true then (↑(readG (0 : Nat) (0 : Nat) (List.take ((smallL n.toNat).length + rest.length) (List.drop (0 : Nat) z1))).snd.fst : Int) == (↑(smallL n.toNat).length : Int) else false)) [] []))
           ((false = false) ∧
            (k (AV.bool false) [] []))))
       ((k (AV.bool false) [] [])))
     (br (bif bif decide (w ≥ (8 : Int)) then decide (w ≤ (8 : Int)) else false then true else (0 : Int) != (0 : Int))
       ((k (AV.bool false) [] []))
       ((
         ((0 : Int) ≤ n) ∧
         (n ≤ (18446744073709551615 : Int))) ∧
        (((smallL n.toNat).length + rest.length) * (1 : Nat) ≤ (140737488355328 : Nat)) ∧
        ∀ (z2 : List UInt8),
        (z2 = List.take (smallL n.toNat).length (smallL n.toNat) ++ rest) →
        ((List.take ((smallL n.toNat).length + rest.length) (List.drop (0 : Nat) z2)).length ≤ (1000000 : Nat)) ∧
        br (bif bif true then (↑(readG (0 : Nat) (0 : Nat) (List.take ((smallL n.toNat).length + rest.length) (List.drop (0 : Nat) z2))).snd.snd : Int) == (0 : Int) else false then (↑(readG (0 : Nat) (0 : Nat) (List.take ((smallL n.toNat).length + rest.length) (List.drop (0 : Nat) z2))).fst : Int) == n else false)
         ((
           ((0 : Int) ≤ n) ∧
           (n ≤ (18446744073709551615 : Int))) ∧
          (k (AV.bool (bif true then (↑(readG (0 : Nat) (0 : Nat) (List.take ((smallL n.toNat).length + rest.length) (List.drop (0 : Nat) z2))).snd.fst : Int) == (↑(smallL n.toNat).length : Int) else false)) [] []))
         ((false = false) ∧
          (k (AV.bool false) [] []))))) := by
  refine brd (fun c1 => ?_) (fun c1 => ?_) -- decide ((↑rest.length : Int) > (10000 : Int))
  · -- yes
    exact by assumption -- k (AV.bool true) [] []
  · -- no
    refine ⟨?_, ?_⟩
    · -- left
      refine ⟨by assumption, ?_⟩ -- (0 : Int) ≤ n
      exact by assumption -- n ≤ (18446744073709551615 : Int)
    refine br_intro (fun c2 => ?_) (fun c2 => ?_) -- putOk n w
    · -- yes
      refine br_intro (fun c3 => ?_) (fun c3 => ?_) -- getOk (List.take w.toNat (List.drop (0 : Nat) (putL n.toNat w.toNat)))
      · -- yes
        refine br_intro (fun c4 => ?_) (fun c4 => ?_) -- bif bif (0 : Int) != (0 : Int) then true else (↑(getL (List.take w.toNat (List.drop (0 : Nat) (putL n.toNat w.toNat)))) : Int) != n then true else (↑w.toNat : Int) != w
        · -- yes
          -- k (AV.bool false) [] []
          exfalso
          obtain ⟨g1, g2⟩ := get_put c2
          obtain ⟨p1, p2, -⟩ := putOk_out c2
          rw [g1, g2] at c4
          simp at c4
          omega
        · -- no
          refine ⟨?_, ?_⟩
          · -- left
            refine ⟨by assumption, ?_⟩ -- (0 : Int) ≤ n
            exact by assumption -- n ≤ (18446744073709551615 : Int)
          have h5 : ((smallL n.toNat).length + rest.length) * (1 : Nat) ≤ (140737488355328 : Nat) := by
            have := small_le n.toNat
            omega
          refine ⟨h5, ?_⟩
          intro z1
          intro qz1 -- z1 = List.take (smallL n.toNat).length (smallL n.toNat) ++ rest
          have h6 : (List.take ((smallL n.toNat).length + rest.length) (List.drop (0 : Nat) z1)).length ≤ (1000000 : Nat) := by
            have := small_le n.toNat
            rw [List.length_take]; omega
          refine ⟨h6, ?_⟩
          refine br_intro (fun c7 => ?_) (fun c7 => ?_) -- bif bif true then (↑(readG (0 : Nat) (0 : Nat) (List.take ((smallL n.toNat).length + rest.length) (List.drop (0 : Nat) z1))).snd.snd : Int) == (0 : Int) else false then (↑(readG (0 : Nat) (0 : Nat) (List.take ((smallL n.toNat).length + rest.length) (List.drop (0 : Nat) z1))).fst : Int) == n else false
          · -- yes
            refine ⟨?_, ?_⟩
            · -- left
              refine ⟨by assumption, ?_⟩ -- (0 : Int) ≤ n
              exact by assumption -- n ≤ (18446744073709551615 : Int)
            -- k (AV.bool (bif true then (↑(readG (0 : Nat) (0 : Nat) (List.take ((smallL n.toNat).length + rest.length) (List.drop (0 : Nat) z1))).snd.fst : Int) == (↑(smallL n.toNat).length : Int) else false)) [] []
            obtain ⟨r1, r2⟩ := read_whole n.toNat rest z1 (by omega) qz1
            rw [r1, r2]
            simpa using hk
          · -- no
            refine ⟨by with_reducible rfl, ?_⟩ -- false = false
            -- k (AV.bool false) [] []
            exfalso
            obtain ⟨r1, r2⟩ := read_whole n.toNat rest z1 (by omega) qz1
            rw [r1, r2] at c7
            simp at c7
            omega
      · -- no
        -- k (AV.bool false) [] []
        exfalso
        obtain ⟨g1, g2⟩ := get_put c2
        obtain ⟨p1, p2, -⟩ := putOk_out c2
        rw [g1] at c3
        unfold getOk at c3
        rw [putL_len, decide_eq_false_iff_not] at c3
        omega
    · -- no
      refine br_intro (fun c8 => ?_) (fun c8 => ?_) -- bif bif decide (w ≥ (8 : Int)) then decide (w ≤ (8 : Int)) else false then true else (0 : Int) != (0 : Int)
      · -- yes
        -- k (AV.bool false) [] []
        exfalso
        simp at c8
        have : w = 8 := by omega
        subst this
        unfold putOk at c2
        rw [decide_eq_false_iff_not] at c2
        refine c2 ⟨by decide, by decide, ?_⟩
        show n.toNat < 18446744073709551616
        omega
      · -- no
        refine ⟨?_, ?_⟩
        · -- left
          refine ⟨by assumption, ?_⟩ -- (0 : Int) ≤ n
          exact by assumption -- n ≤ (18446744073709551615 : Int)
        have h9 : ((smallL n.toNat).length + rest.length) * (1 : Nat) ≤ (140737488355328 : Nat) := by
          have := small_le n.toNat
          omega
        refine ⟨h9, ?_⟩
        intro z2
        intro qz2 -- z2 = List.take (smallL n.toNat).length (smallL n.toNat) ++ rest
        have h10 : (List.take ((smallL n.toNat).length + rest.length) (List.drop (0 : Nat) z2)).length ≤ (1000000 : Nat) := by
          have := small_le n.toNat
          rw [List.length_take]; omega
        refine ⟨h10, ?_⟩
        refine br_intro (fun c11 => ?_) (fun c11 => ?_) -- bif bif true then (↑(readG (0 : Nat) (0 : Nat) (List.take ((smallL n.toNat).length + rest.length) (List.drop (0 : Nat) z2))).snd.snd : Int) == (0 : Int) else false then (↑(readG (0 : Nat) (0 : Nat) (List.take ((smallL n.toNat).length + rest.length) (List.drop (0 : Nat) z2))).fst : Int) == n else false
        · -- yes
          refine ⟨?_, ?_⟩
          · -- left
            refine ⟨by assumption, ?_⟩ -- (0 : Int) ≤ n
            exact by assumption -- n ≤ (18446744073709551615 : Int)
          -- k (AV.bool (bif true then (↑(readG (0 : Nat) (0 : Nat) (List.take ((smallL n.toNat).length + rest.length) (List.drop (0 : Nat) z2))).snd.fst : Int) == (↑(smallL n.toNat).length : Int) else false)) [] []
          obtain ⟨r1, r2⟩ := read_whole n.toNat rest z2 (by omega) qz2
          rw [r1, r2]
          simpa using hk
        · -- no
          refine ⟨by with_reducible rfl, ?_⟩ -- false = false
          -- k (AV.bool false) [] []
          exfalso
          obtain ⟨r1, r2⟩ := read_whole n.toNat rest z2 (by omega) qz2
          rw [r1, r2] at c11
          simp at c11
          omega


end Go.Proofs.Ytcccenipmefkiaa
