/- RawNumbers: numbers are written and read as the document says; what comes in stays. Any number, width and bytes. No conditions beyond the row's own. -/
import Derived.Test.YtcccenipmefkiaaRwG
import Derived.Test.YtcccenipmefkiaaEngR
import Derived.Test.YtcccenipmefkiaaRows
namespace Go.Proofs.Ytcccenipmefkiaa
open Go Go.Eng Go.Rw Go.Proofs
set_option linter.unusedVariables false
set_option maxHeartbeats 2000000 in
theorem rawNumbers_vc (n : Int) (n0 : (0 : Int) ≤ n) (n1 : n ≤ (18446744073709551615 : Int)) (w : Int) (w0 : (-9223372036854775808 : Int) ≤ w) (w1 : w ≤ (9223372036854775807 : Int)) (xs : List UInt8) (k : AV → List (Option Blk) → List Blk → Prop) (hk : k (AV.bool true) [] []) :
  ∀ (n1 : Int),
  (n1 = (↑xs.length : Int)) →
  ((-9223372036854775808 : Int) ≤ n1 ∧ n1 ≤ (9223372036854775807 : Int)) →
  br (decide (n1 > (100000 : Int)))
   ((k (AV.bool true) [] []))
   ((xs.length * (1 : Nat) ≤ (140737488355328 : Nat)) ∧
    ∀ (z4 : List UInt8),
    (z4 = xs) →
    (
     ((0 : Int) ≤ n) ∧
     (n ≤ (18446744073709551615 : Int))) ∧
    (
     ((-9223372036854775808 : Int) ≤ w) ∧
     (w ≤ (9223372036854775807 : Int))) ∧
    ∀ (ys_6 : List UInt8),
    ∀ (q_7 : Nat),
    ∀ (e_8 : Int),
    (ys_6 = putF n w) →
    (ys_6.length = q_7) →
    (e_8 = putE n w) →
    (e_8 = (0 : Int) ∨ e_8 = (2 : Int)) →
    (
     ((0 : Int) ≤ n) ∧
     (n ≤ (18446744073709551615 : Int))) ∧
    (
     ((-9223372036854775808 : Int) ≤ w) ∧
     (w ≤ (9223372036854775807 : Int))) ∧
    ∀ (ys_13 : List UInt8),
    ∀ (q_14 : Nat),
    ∀ (e_15 : Int),
    (ys_13 = putF n w) →
    (ys_13.length = q_14) →
    (e_15 = putE n w) →
    (e_15 = (0 : Int) ∨ e_15 = (2 : Int)) →
    ∀ (a_20 : Int),
    ∀ (e_21 : Int),
    (a_20 = getV (List.take xs.length (List.drop (0 : Nat) z4))) →
    (e_21 = getE (List.take xs.length (List.drop (0 : Nat) z4))) →
    ((0 : Int) ≤ a_20 ∧ a_20 ≤ (18446744073709551615 : Int)) →
    (e_21 = (0 : Int) ∨ e_21 = (8 : Int)) →
    ∀ (a_26 : Int),
    ∀ (e_27 : Int),
    (a_26 = getV xs) →
    (e_27 = getE xs) →
    ((0 : Int) ≤ a_26 ∧ a_26 ≤ (18446744073709551615 : Int)) →
    (e_27 = (0 : Int) ∨ e_27 = (8 : Int)) →
    ((List.take xs.length (List.drop (0 : Nat) z4)).length ≤ (1000000 : Nat)) ∧
    ∀ (a_32 : Int),
    ∀ (b_33 : Int),
    ∀ (c_34 : Int),
    (a_32 = (↑(readG (0 : Nat) (0 : Nat) (List.take xs.length (List.drop (0 : Nat) z4))).fst : Int)) →
    (b_33 = (↑(readG (0 : Nat) (0 : Nat) (List.take xs.length (List.drop (0 : Nat) z4))).snd.fst : Int)) →
    (c_34 = (↑(readG (0 : Nat) (0 : Nat) (List.take xs.length (List.drop (0 : Nat) z4))).snd.snd : Int)) →
    ((0 : Int) ≤ a_32 ∧ a_32 ≤ (18446744073709551615 : Int)) →
    ((0 : Int) ≤ b_33 ∧ b_33 ≤ (10 : Int)) →
    (c_34 = (0 : Int) ∨ c_34 = (8 : Int)) →
    (xs.length ≤ (1000000 : Nat)) ∧
    ∀ (a_41 : Int),
    ∀ (b_42 : Int),
    ∀ (c_43 : Int),
    (a_41 = (↑(readG (0 : Nat) (0 : Nat) xs).fst : Int)) →
    (b_42 = (↑(readG (0 : Nat) (0 : Nat) xs).snd.fst : Int)) →
    (c_43 = (↑(readG (0 : Nat) (0 : Nat) xs).snd.snd : Int)) →
    ((0 : Int) ≤ a_41 ∧ a_41 ≤ (18446744073709551615 : Int)) →
    ((0 : Int) ≤ b_42 ∧ b_42 ≤ (10 : Int)) →
    (c_43 = (0 : Int) ∨ c_43 = (8 : Int)) →
    (
     ((0 : Int) ≤ n) ∧
     (n ≤ (18446744073709551615 : Int))) ∧
    ∀ (ys_50 : List UInt8),
    ∀ (q_51 : Nat),
    (ys_50 = smallL n.toNat) →
    (ys_50.length = q_51) →
    (q_51 ≤ (10 : Nat)) →
    ∀ (r_55 : Bool),
    (r_55 = true ↔ List.take q_7 (List.drop (0 : Nat) ys_6) = List.take q_14 (List.drop (0 : Nat) ys_13)) →
    br (bif bif bif bif bif bif !r_55 then true else e_8 != e_15 then true else a_20 != a_26 then true else e_21 != e_27 then true else a_32 != a_41 then true else b_33 != b_42 then true else c_34 != c_43)
     ((true = true) ∧
      (true = true) ∧
      (k (AV.bool false) [] []))
     ((
       ((0 : Int) ≤ n) ∧
       (n ≤ (18446744073709551615 : Int))) ∧
      ∀ (ys_57 : List UInt8),
      ∀ (q_58 : Nat),
      (ys_57 = smallL n.toNat) →
      (ys_57.length = q_58) →
      (q_58 ≤ (10 : Nat)) →
      ∀ (r_62 : Bool),
      (r_62 = true ↔ List.take q_51 (List.drop (0 : Nat) ys_50) = List.take q_58 (List.drop (0 : Nat) ys_57)) →
      br (bif false then true else !r_62)
       ((true = true) ∧
        (k (AV.bool false) [] []))
       (∀ (r_64 : Bool),
        (r_64 = true ↔ List.take xs.length (List.drop (0 : Nat) z4) = xs) →
        br (bif false then true else !r_64)
         ((k (AV.bool false) [] []))
         ((
           ∃ (v : Nat × Nat × List UInt8),
           (n = n) ∧
           ((0 : Nat) = (0 : Nat)) ∧
           (q_51 = v.snd.fst) ∧
           ((0 : Int) = (↑v.fst : Int)) ∧
           (ys_50 = v.snd.snd) ∧
           (v.fst ≤ v.snd.fst) ∧
           (v.snd.snd.length = v.snd.fst) ∧
           (v.snd.fst ≤ (10 : Nat))) ∧
          ∀ (v_66 : Nat × Nat × List UInt8),
          (v_66.fst ≤ v_66.snd.fst ∧ v_66.snd.snd.length = v_66.snd.fst ∧ v_66.snd.fst ≤ (10 : Nat)) →
          ∀ (n68 : Int),
          (n68 = (↑v_66.snd.fst : Int)) →
          ((-9223372036854775808 : Int) ≤ n68 ∧ n68 ≤ (9223372036854775807 : Int)) →
          br (decide ((↑v_66.fst : Int) < n68))
           (((0 : Int) ≤ (↑v_66.fst : Int)) ∧
            ((↑v_66.fst : Int) < (↑v_66.snd.fst : Int)) ∧
            ((0 : Nat) + (↑v_66.fst : Int).toNat < v_66.snd.snd.length) ∧
            ∀ (z71 : List UInt8),
            (z71 = v_66.snd.snd.set ((0 : Nat) + (↑v_66.fst : Int).toNat) (UInt8.ofNat (Int.toNat (77 : Int)))) →
            ∀ (n73 : Int),
            (n73 = IntKind.i64.wrap ((↑v_66.fst : Int) + (1 : Int))) →
            ((-9223372036854775808 : Int) ≤ n73 ∧ n73 ≤ (9223372036854775807 : Int)) →
            ∃ (v' : Nat × Nat × List UInt8),
            (n = n) ∧
            ((0 : Nat) = (0 : Nat)) ∧
            (v_66.snd.fst = v'.snd.fst) ∧
            (n73 = (↑v'.fst : Int)) ∧
            (z71 = v'.snd.snd) ∧
            (
             (v'.fst ≤ v'.snd.fst) ∧
             (v'.snd.snd.length = v'.snd.fst) ∧
             (v'.snd.fst ≤ (10 : Nat))) ∧
            (v'.snd.fst - v'.fst < v_66.snd.fst - v_66.fst))
           ((
             ((0 : Int) ≤ n) ∧
             (n ≤ (18446744073709551615 : Int))) ∧
            ∀ (ys_76 : List UInt8),
            ∀ (q_77 : Nat),
            (ys_76 = smallL n.toNat) →
            (ys_76.length = q_77) →
            (q_77 ≤ (10 : Nat)) →
            (
             ((0 : Int) ≤ n) ∧
             (n ≤ (18446744073709551615 : Int))) ∧
            ∀ (ys_81 : List UInt8),
            ∀ (q_82 : Nat),
            (ys_81 = smallL n.toNat) →
            (ys_81.length = q_82) →
            (q_82 ≤ (10 : Nat)) →
            ∀ (r_86 : Bool),
            (r_86 = true ↔ List.take q_77 (List.drop (0 : Nat) ys_76) = List.take q_82 (List.drop (0 : Nat) ys_81)) →
            (k (AV.bool r_86) [] [])))))) := by
  intro n1
  intro q1 -- n1 = (↑xs.length : Int)
  intro ⟨l1, u1⟩ -- (-9223372036854775808 : Int) ≤ n1 ∧ n1 ≤ (9223372036854775807 : Int)
  refine brd (fun c1 => ?_) (fun c1 => ?_) -- decide (n1 > (100000 : Int))
  · -- yes
    exact by exact hk -- k (AV.bool true) [] []
  · -- no
    refine ⟨by first | omega | (dsimp only; omega), ?_⟩ -- xs.length * (1 : Nat) ≤ (140737488355328 : Nat)
    intro z4
    intro qz4 -- z4 = xs
    refine ⟨by exact ⟨by assumption, by assumption⟩, ?_⟩ -- (0 : Int) ≤ n ∧ n ≤ (18446744073709551615 : Int)
    refine ⟨by exact ⟨by assumption, by assumption⟩, ?_⟩ -- (-9223372036854775808 : Int) ≤ w ∧ w ≤ (9223372036854775807 : Int)
    intro ys_6
    intro q_7
    intro e_8
    intro h2 -- ys_6 = putF n w
    intro h3 -- ys_6.length = q_7
    intro h4 -- e_8 = putE n w
    intro h5 -- e_8 = (0 : Int) ∨ e_8 = (2 : Int)
    refine ⟨by exact ⟨by assumption, by assumption⟩, ?_⟩ -- (0 : Int) ≤ n ∧ n ≤ (18446744073709551615 : Int)
    refine ⟨by exact ⟨by assumption, by assumption⟩, ?_⟩ -- (-9223372036854775808 : Int) ≤ w ∧ w ≤ (9223372036854775807 : Int)
    intro ys_13
    intro q_14
    intro e_15
    intro h6 -- ys_13 = putF n w
    intro h7 -- ys_13.length = q_14
    intro h8 -- e_15 = putE n w
    intro h9 -- e_15 = (0 : Int) ∨ e_15 = (2 : Int)
    intro a_20
    intro e_21
    intro h10 -- a_20 = getV (List.take xs.length (List.drop (0 : Nat) z4))
    intro h11 -- e_21 = getE (List.take xs.length (List.drop (0 : Nat) z4))
    intro ⟨a12, b12⟩ -- (0 : Int) ≤ a_20 ∧ a_20 ≤ (18446744073709551615 : Int)
    intro h13 -- e_21 = (0 : Int) ∨ e_21 = (8 : Int)
    intro a_26
    intro e_27
    intro h14 -- a_26 = getV xs
    intro h15 -- e_27 = getE xs
    intro ⟨a16, b16⟩ -- (0 : Int) ≤ a_26 ∧ a_26 ≤ (18446744073709551615 : Int)
    intro h17 -- e_27 = (0 : Int) ∨ e_27 = (8 : Int)
    have h18 : (List.take xs.length (List.drop (0 : Nat) z4)).length ≤ (1000000 : Nat) := by
      rw [qz4, List.drop_zero, List.take_length]; omega
    refine ⟨h18, ?_⟩
    intro a_32
    intro b_33
    intro c_34
    intro h19 -- a_32 = (↑(readG (0 : Nat) (0 : Nat) (List.take xs.length (List.drop (0 : Nat) z4))).fst : Int)
    intro h20 -- b_33 = (↑(readG (0 : Nat) (0 : Nat) (List.take xs.length (List.drop (0 : Nat) z4))).snd.fst : Int)
    intro h21 -- c_34 = (↑(readG (0 : Nat) (0 : Nat) (List.take xs.length (List.drop (0 : Nat) z4))).snd.snd : Int)
    intro ⟨a22, b22⟩ -- (0 : Int) ≤ a_32 ∧ a_32 ≤ (18446744073709551615 : Int)
    intro ⟨a23, b23⟩ -- (0 : Int) ≤ b_33 ∧ b_33 ≤ (10 : Int)
    intro h24 -- c_34 = (0 : Int) ∨ c_34 = (8 : Int)
    refine ⟨by first | omega | (dsimp only; omega), ?_⟩ -- xs.length ≤ (1000000 : Nat)
    intro a_41
    intro b_42
    intro c_43
    intro h25 -- a_41 = (↑(readG (0 : Nat) (0 : Nat) xs).fst : Int)
    intro h26 -- b_42 = (↑(readG (0 : Nat) (0 : Nat) xs).snd.fst : Int)
    intro h27 -- c_43 = (↑(readG (0 : Nat) (0 : Nat) xs).snd.snd : Int)
    intro ⟨a28, b28⟩ -- (0 : Int) ≤ a_41 ∧ a_41 ≤ (18446744073709551615 : Int)
    intro ⟨a29, b29⟩ -- (0 : Int) ≤ b_42 ∧ b_42 ≤ (10 : Int)
    intro h30 -- c_43 = (0 : Int) ∨ c_43 = (8 : Int)
    refine ⟨by exact ⟨by assumption, by assumption⟩, ?_⟩ -- (0 : Int) ≤ n ∧ n ≤ (18446744073709551615 : Int)
    intro ys_50
    intro q_51
    intro h31 -- ys_50 = smallL n.toNat
    intro h32 -- ys_50.length = q_51
    intro h33 -- q_51 ≤ (10 : Nat)
    intro r_55
    intro h34 -- r_55 = true ↔ List.take q_7 (List.drop (0 : Nat) ys_6) = List.take q_14 (List.drop (0 : Nat) ys_13)
    refine br_intro (fun c35 => ?_) (fun c35 => ?_) -- bif bif bif bif bif bif !r_55 then true else e_8 != e_15 then true else a_20 != a_26 then true else e_21 != e_27 then true else a_32 != a_41 then true else b_33 != b_42 then true else c_34 != c_43
    · -- yes
      simp at c35 -- (((((r_55 = false ∨ ¬e_8 = e_15) ∨ ¬a_20 = a_26) ∨ ¬e_21 = e_27) ∨ ¬a_32 = a_41) ∨ ¬b_33 = b_42) ∨ ¬c_34 = c_43
      refine ⟨by with_reducible rfl, ?_⟩ -- true = true
      refine ⟨by with_reducible rfl, ?_⟩ -- true = true
      -- k (AV.bool false) [] []
      exfalso
      have hz : List.take xs.length (List.drop 0 z4) = xs := by rw [qz4, List.drop_zero, List.take_length]
      rw [hz] at h10 h11 h19 h20 h21
      have hs : r_55 = true := h34.2 (by rw [List.drop_zero, List.drop_zero, List.take_of_length_le (by omega), List.take_of_length_le (by omega), h2, h6])
      rcases c35 with (((((c | c) | c) | c) | c) | c) | c
      · rw [hs] at c; cases c
      · exact c (h4.trans h8.symm)
      · exact c (h10.trans h14.symm)
      · exact c (h11.trans h15.symm)
      · exact c (h19.trans h25.symm)
      · exact c (h20.trans h26.symm)
      · exact c (h21.trans h27.symm)
    · -- no
      simp at c35 -- (((((r_55 = true ∧ e_8 = e_15) ∧ a_20 = a_26) ∧ e_21 = e_27) ∧ a_32 = a_41) ∧ b_33 = b_42) ∧ c_34 = c_43
      refine ⟨by exact ⟨by assumption, by assumption⟩, ?_⟩ -- (0 : Int) ≤ n ∧ n ≤ (18446744073709551615 : Int)
      intro ys_57
      intro q_58
      intro h36 -- ys_57 = smallL n.toNat
      intro h37 -- ys_57.length = q_58
      intro h38 -- q_58 ≤ (10 : Nat)
      intro r_62
      intro h39 -- r_62 = true ↔ List.take q_51 (List.drop (0 : Nat) ys_50) = List.take q_58 (List.drop (0 : Nat) ys_57)
      refine br_intro (fun c40 => ?_) (fun c40 => ?_) -- bif false then true else !r_62
      · -- yes
        simp at c40 -- r_62 = false
        refine ⟨by with_reducible rfl, ?_⟩ -- true = true
        -- k (AV.bool false) [] []
        exfalso
        have t : r_62 = true := h39.2 (by rw [List.drop_zero, List.drop_zero, List.take_of_length_le (by omega), List.take_of_length_le (by omega), h31, h36])
        rw [c40] at t
        cases t
      · -- no
        simp at c40 -- r_62 = true
        intro r_64
        intro h41 -- r_64 = true ↔ List.take xs.length (List.drop (0 : Nat) z4) = xs
        refine br_intro (fun c42 => ?_) (fun c42 => ?_) -- bif false then true else !r_64
        · -- yes
          simp at c42 -- r_64 = false
          -- k (AV.bool false) [] []
          exfalso
          have hz : List.take xs.length (List.drop 0 z4) = xs := by rw [qz4, List.drop_zero, List.take_length]
          have t := h41.2 hz
          rw [c42] at t
          cases t
        · -- no
          simp at c42 -- r_64 = true
          refine ⟨?_, ?_⟩
          · -- left
            refine ⟨(Int.toNat (0 : Int), q_51, ys_50), ?_⟩
            refine ⟨by first | with_reducible rfl | rfl, ?_⟩ -- n = n
            refine ⟨by first | with_reducible rfl | rfl, ?_⟩ -- (0 : Nat) = (0 : Nat)
            refine ⟨by first | with_reducible rfl | rfl, ?_⟩ -- q_51 = q_51
            refine ⟨by show (0 : Int) = (↑(Int.toNat (0 : Int)) : Int); omega, ?_⟩ -- (0 : Int) = (↑(Int.toNat (0 : Int)) : Int)
            refine ⟨by first | with_reducible rfl | rfl, ?_⟩ -- ys_50 = ys_50
            refine ⟨by show Int.toNat (0 : Int) ≤ q_51; omega, ?_⟩ -- Int.toNat (0 : Int) ≤ q_51
            refine ⟨by show ys_50.length = q_51; assumption, ?_⟩ -- ys_50.length = q_51
            exact by show q_51 ≤ (10 : Nat); assumption -- q_51 ≤ (10 : Nat)
          intro v_66
          intro h43 -- v_66.fst ≤ v_66.snd.fst ∧ v_66.snd.snd.length = v_66.snd.fst ∧ v_66.snd.fst ≤ (10 : Nat)
          intro n68
          intro q68 -- n68 = (↑v_66.snd.fst : Int)
          intro ⟨l68, u68⟩ -- (-9223372036854775808 : Int) ≤ n68 ∧ n68 ≤ (9223372036854775807 : Int)
          refine brd (fun c44 => ?_) (fun c44 => ?_) -- decide ((↑v_66.fst : Int) < n68)
          · -- yes
            refine ⟨by first | omega | (dsimp only; omega), ?_⟩ -- (0 : Int) ≤ (↑v_66.fst : Int)
            refine ⟨by first | omega | (dsimp only; omega), ?_⟩ -- (↑v_66.fst : Int) < (↑v_66.snd.fst : Int)
            refine ⟨by first | omega | (dsimp only; omega), ?_⟩ -- (0 : Nat) + (↑v_66.fst : Int).toNat < v_66.snd.snd.length
            intro z71
            intro qz71 -- z71 = v_66.snd.snd.set ((0 : Nat) + (↑v_66.fst : Int).toNat) (UInt8.ofNat (Int.toNat (77 : Int)))
            intro n73
            intro q73 -- n73 = IntKind.i64.wrap ((↑v_66.fst : Int) + (1 : Int))
            rw [IntKind.wrap_i64] at q73
            intro ⟨l73, u73⟩ -- (-9223372036854775808 : Int) ≤ n73 ∧ n73 ≤ (9223372036854775807 : Int)
            refine ⟨(n73.toNat, v_66.snd.fst, z71), ?_⟩
            refine ⟨by first | with_reducible rfl | rfl, ?_⟩ -- n = n
            refine ⟨by first | with_reducible rfl | rfl, ?_⟩ -- (0 : Nat) = (0 : Nat)
            refine ⟨by first | with_reducible rfl | rfl, ?_⟩ -- v_66.snd.fst = v_66.snd.fst
            refine ⟨by show n73 = (↑n73.toNat : Int); omega, ?_⟩ -- n73 = (↑n73.toNat : Int)
            refine ⟨by first | with_reducible rfl | rfl, ?_⟩ -- z71 = z71
            refine ⟨?_, ?_⟩
            · -- left
              refine ⟨by show n73.toNat ≤ v_66.snd.fst; omega, ?_⟩ -- n73.toNat ≤ v_66.snd.fst
              have h45 : z71.length = v_66.snd.fst := by
                rw [qz71]; simp; omega
              refine ⟨h45, ?_⟩
              exact by show v_66.snd.fst ≤ (10 : Nat); omega -- v_66.snd.fst ≤ (10 : Nat)
            exact by show v_66.snd.fst - n73.toNat < v_66.snd.fst - v_66.fst; omega -- v_66.snd.fst - n73.toNat < v_66.snd.fst - v_66.fst
          · -- no
            refine ⟨by exact ⟨by assumption, by assumption⟩, ?_⟩ -- (0 : Int) ≤ n ∧ n ≤ (18446744073709551615 : Int)
            intro ys_76
            intro q_77
            intro h46 -- ys_76 = smallL n.toNat
            intro h47 -- ys_76.length = q_77
            intro h48 -- q_77 ≤ (10 : Nat)
            refine ⟨by exact ⟨by assumption, by assumption⟩, ?_⟩ -- (0 : Int) ≤ n ∧ n ≤ (18446744073709551615 : Int)
            intro ys_81
            intro q_82
            intro h49 -- ys_81 = smallL n.toNat
            intro h50 -- ys_81.length = q_82
            intro h51 -- q_82 ≤ (10 : Nat)
            intro r_86
            intro h52 -- r_86 = true ↔ List.take q_77 (List.drop (0 : Nat) ys_76) = List.take q_82 (List.drop (0 : Nat) ys_81)
            -- k (AV.bool r_86) [] []
            have t : r_86 = true := h52.2 (by rw [List.drop_zero, List.drop_zero, List.take_of_length_le (by omega), List.take_of_length_le (by omega), h46, h49])
            exact k_true hk t

theorem rawNumbers_ok : Holds Try.prog 5 lawNum := by
  refine fn_sound (env := mkEnv T2) (tab_ok T2_ok) Try.func5 Try.call5 fun args k h => ?_
  match args, h with
  | [.int .u64 n, .int .i64 w, .sl 0 xs], h => exact ⟨by kernel_rfl, numLoops n, fun _ _ => none, .cast (by kernel_rfl) (rawNumbers_vc n h.1.1 h.1.2 w h.2.1.1 h.2.1.2 xs k h.2.2)⟩
end Go.Proofs.Ytcccenipmefkiaa
namespace Go.Proofs.Ytcccenipmefkiaa
open Go.ChangeShapes Go.WideShapes Go.ChangeAt Go.RowKit Go.Eng
set_option linter.unusedVariables false

theorem ownB : ownKnob Try.prog.godebug = none := by kernel_rfl
theorem laidB : laidOutB Try.prog = true := by kernel_rfl

set_option maxHeartbeats 800000 in
set_option maxRecDepth 100000 in
theorem rawNumbersLifted (os : Os) (started : os.Started) (H : Type) (enc : TypeId × Value → H) :
    ReturnsInHanded {} Try.checked os 5 .any (Rows.rawNumbersSpec.pre6 enc Try.prog Try.f5 Rows.rawNumbersRow.domain false) (Rows.rawNumbersSpec.post enc Try.prog Try.f5 false true false false) := by
  refine returnsInHanded_of_change (C := Try.checked) ownB started (by kernel_rfl) Try.func5
    (ChangeSpec.witness6 (enc := enc) (C := Try.checked) false ⟨#[], #[.int .u64 0, .int .i64 0, .slice none 0 0], []⟩ 8 (by kernel_rfl) (by kernel_rfl) (by kernel_rfl) (by kernel_rfl)) ?_
  intro W base args ds gs before hval0 hW hcnd _
  have hval : ∀ (j : Nat) t v, Try.f5.params[j]? = some t → args[j]? = some v → Value.okWide Try.prog W .any base t v := hval0
  have hW' := hW
  obtain ⟨p, q, hA0, hV, rfl, hfz, hnd⟩ := hW
  have hA : DataW.TrodAll enc Try.prog W 0 (fun _ => true) true Try.f5.params.toList args.toList ds p := hA0
  rw [Try.params5] at hA hval
  obtain ⟨v0, vs0, d0, ds0, p0, q0, hargs, rfl, rfl, h0, r0⟩ := trodAll_cons hA
  obtain ⟨v1, vs1, d1, ds1, p1, q1, rfl, rfl, rfl, h1, r1⟩ := trodAll_cons r0
  obtain ⟨v2, vs2, d2, ds2, p2, q2, rfl, rfl, rfl, h2, r2⟩ := trodAll_cons r1
  obtain ⟨rfl, rfl, rfl⟩ := trodAll_nil r2
  obtain rfl : args = #[v0, v1, v2] := by cases args; simp_all
  obtain ⟨rfl, rfl⟩ := trodVars_none hV
  obtain ⟨a0, rfl, rfl, rfl, w0⟩ := open_int Try.underlying27 (hval 0 27 v0 rfl rfl) h0
  obtain ⟨a1, rfl, rfl, rfl, w1⟩ := open_int Try.underlying3 (hval 1 3 v1 rfl rfl) h1
  have k2 := h2
  have lt2 : ∀ x ∈ p2, x.block < W.heap.size := by obtain ⟨m, hm⟩ := k2; exact DataW.trod_lt m _ _ _ hm
  obtain ⟨xs2, w2⟩ : ∃ xs : List UInt8, Rep W (· < W.heap.size) noIds v2 (.sl 0 xs) := by
    obtain ⟨fuel, hf⟩ := h2
    exact rep_bytes Try.underlying22 Try.underlying5 (by kernel_rfl) (hval 2 22 v2 rfl rfl) hf
  clear hA0 hval0
  have hk0 : kwf .u64 a0 := by simpa [Lit.wf, kwf] using w0
  have hk1 : kwf .i64 a1 := by simpa [Lit.wf, kwf] using w1
  -- PRE: what the spec asks (['hk0', 'hk1']), then rfl
  refine (calls_of_holds rawNumbers_ok Try.call5 (w := W) (vals := #[.int .u64 a0, .int .i64 a1, v2]) (args := [.int .u64 a0, .int .i64 a1, .sl 0 xs2]) rfl (fun j v hj => ?_) ⟨hk0, hk1, rfl⟩).mono fun e W' ⟨he, bel⟩ => ?_
  · rcases j with _ | _ | _ | j
    · simp at hj; subst hj; exact .int hk0
    · simp at hj; subst hj; exact .int hk1
    · simp at hj; subst hj; exact w2
    · simp at hj
  subst he
  exact ⟨_, rfl, _, _, _, [], _, [], hW', trodAll_mk1 (shut_bool Try.underlying4 _), (trodAll_cons_mk (shut_int Try.underlying27 w0) (trodAll_cons_mk (shut_int Try.underlying3 w1) (trodAll_cons_mk (Below.trod laidB (by kernel_rfl) (of_decide_eq_true (by kernel_rfl)) k2 bel lt2) trodAll_mk0))), rfl, bel.frame _, fun h => by cases h⟩

theorem rawNumbers_said : Rows.RawNumbersSaid :=
  OpenClaim.holds_of_wide 5 Try.f5 rfl rfl rfl rfl rfl rfl rfl ⟨rfl, rfl, rfl, rfl, rfl⟩ rfl rfl rfl rfl rfl (by kernel_rfl) Try.func5 (by kernel_rfl)
    (of_decide_eq_true (by kernel_rfl)) (by unfold Func.isWrapper; first | (rw [if_pos (by decide +kernel)]; kernel_rfl) | (rw [if_neg (by decide +kernel)]; exact ⟨rfl, rfl⟩))
    (fun os started H enc _ => rawNumbersLifted os started H enc)
#print axioms rawNumbers_said
end Go.Proofs.Ytcccenipmefkiaa


