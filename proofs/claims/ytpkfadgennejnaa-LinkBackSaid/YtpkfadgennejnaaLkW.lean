/- LinkBodies and LinkBack: commands and reports are written, and read, as the document says; they are read again as they were written, and nothing else is read as one. Any command, any report, any bytes. No conditions beyond the rows' own. -/
import Derived.Test.YtpkfadgennejnaaLkV
import Derived.Test.YtpkfadgennejnaaEngR
import Derived.Test.YtpkfadgennejnaaRows
namespace Go.Proofs.Ytpkfadgennejnaa
open Go Go.Eng Go.Rw Go.Lk Go.Proofs
set_option linter.unusedVariables false
set_option maxHeartbeats 2000000 in
theorem linkBodies_vc (s : Int) (s0 : (-9223372036854775808 : Int) ≤ s) (s1 : s ≤ (9223372036854775807 : Int)) (c : Int) (c0 : (-9223372036854775808 : Int) ≤ c) (c1 : c ≤ (9223372036854775807 : Int)) (o : Int) (o0 : (-9223372036854775808 : Int) ≤ o) (o1 : o ≤ (9223372036854775807 : Int)) (l : List Int) (s2 : Int) (s20 : (-9223372036854775808 : Int) ≤ s2) (s21 : s2 ≤ (9223372036854775807 : Int)) (m : Int) (m0 : (0 : Int) ≤ m) (m1 : m ≤ (255 : Int)) (t : Int) (t0 : (-9223372036854775808 : Int) ≤ t) (t1 : t ≤ (9223372036854775807 : Int)) (l2 : List Int) (b : List UInt8) (k : AV → List (Option Blk) → List Blk → Prop) (hk : k (AV.bool true) [] []) :
  ∀ (n1 : Int),
  (n1 = (↑l.length : Int)) →
  ((-9223372036854775808 : Int) ≤ n1 ∧ n1 ≤ (9223372036854775807 : Int)) →
  ∀ (n4 : Int),
  (n4 = (↑l2.length : Int)) →
  ∀ (n6 : Int),
  (n6 = (↑b.length : Int)) →
  br (bif bif decide (n1 > (1000 : Int)) then true else decide (n4 > (1000 : Int)) then true else decide (n6 > (5000 : Int)))
   ((k (AV.bool true) [] []))
   ((b.length * (1 : Nat) ≤ (140737488355328 : Nat)) ∧
    ∀ (z8 : List UInt8),
    (z8 = b) →
    (l.length ≤ (1000000 : Nat)) ∧
    ∀ (e_10 : Int),
    ∀ (ys_11 : List UInt8),
    ∀ (n_12 : Nat),
    (e_10 = cE s c o l) →
    (ys_11 = cO s c o l) →
    (ys_11.length = n_12) →
    (l.length ≤ (1000000 : Nat)) ∧
    ∀ (e_16 : Int),
    ∀ (ys_17 : List UInt8),
    ∀ (n_18 : Nat),
    (e_16 = cE s c o l) →
    (ys_17 = cO s c o l) →
    (ys_17.length = n_18) →
    (l2.length ≤ (1000000 : Nat)) ∧
    ∀ (e_22 : Int),
    ∀ (ys_23 : List UInt8),
    ∀ (n_24 : Nat),
    (e_22 = rE s2 m t l2) →
    (ys_23 = rO s2 m t l2) →
    (ys_23.length = n_24) →
    (l2.length ≤ (1000000 : Nat)) ∧
    ∀ (e_28 : Int),
    ∀ (ys_29 : List UInt8),
    ∀ (n_30 : Nat),
    (e_28 = rE s2 m t l2) →
    (ys_29 = rO s2 m t l2) →
    (ys_29.length = n_30) →
    ((List.take b.length (List.drop (0 : Nat) z8)).length ≤ (1000000 : Nat)) ∧
    ∀ (e_34 : Int),
    ∀ (s_35 : Int),
    ∀ (c_36 : Int),
    ∀ (o_37 : Int),
    ∀ (l_38 : List Int),
    ∀ (n_39 : Nat),
    (e_34 = ofE (ansC (List.take b.length (List.drop (0 : Nat) z8)))) →
    (s_35 = of1 (ansC (List.take b.length (List.drop (0 : Nat) z8)))) →
    (c_36 = of2 (ansC (List.take b.length (List.drop (0 : Nat) z8)))) →
    (o_37 = of3 (ansC (List.take b.length (List.drop (0 : Nat) z8)))) →
    (l_38 = of4 (ansC (List.take b.length (List.drop (0 : Nat) z8)))) →
    (l_38.length = n_39) →
    (n_39 ≤ (8 : Nat)) →
    (b.length ≤ (1000000 : Nat)) ∧
    ∀ (e_47 : Int),
    ∀ (s_48 : Int),
    ∀ (c_49 : Int),
    ∀ (o_50 : Int),
    ∀ (l_51 : List Int),
    ∀ (n_52 : Nat),
    (e_47 = ofE (ansC b)) →
    (s_48 = of1 (ansC b)) →
    (c_49 = of2 (ansC b)) →
    (o_50 = of3 (ansC b)) →
    (l_51 = of4 (ansC b)) →
    (l_51.length = n_52) →
    (n_52 ≤ (8 : Nat)) →
    ((List.take b.length (List.drop (0 : Nat) z8)).length ≤ (1000000 : Nat)) ∧
    ∀ (e_60 : Int),
    ∀ (s_61 : Int),
    ∀ (c_62 : Int),
    ∀ (o_63 : Int),
    ∀ (l_64 : List Int),
    ∀ (n_65 : Nat),
    (e_60 = ofE (ansR (List.take b.length (List.drop (0 : Nat) z8)))) →
    (s_61 = of1 (ansR (List.take b.length (List.drop (0 : Nat) z8)))) →
    (c_62 = of2 (ansR (List.take b.length (List.drop (0 : Nat) z8)))) →
    (o_63 = of3 (ansR (List.take b.length (List.drop (0 : Nat) z8)))) →
    (l_64 = of4 (ansR (List.take b.length (List.drop (0 : Nat) z8)))) →
    (l_64.length = n_65) →
    (n_65 ≤ (8 : Nat)) →
    (b.length ≤ (1000000 : Nat)) ∧
    ∀ (e_73 : Int),
    ∀ (s_74 : Int),
    ∀ (c_75 : Int),
    ∀ (o_76 : Int),
    ∀ (l_77 : List Int),
    ∀ (n_78 : Nat),
    (e_73 = ofE (ansR b)) →
    (s_74 = of1 (ansR b)) →
    (c_75 = of2 (ansR b)) →
    (o_76 = of3 (ansR b)) →
    (l_77 = of4 (ansR b)) →
    (l_77.length = n_78) →
    (n_78 ≤ (8 : Nat)) →
    br (bif bif bif { data := (List.take n_12 (List.drop (0 : Nat) ys_11)).toArray : ByteArray }.data.toList == { data := (List.take n_18 (List.drop (0 : Nat) ys_17)).toArray : ByteArray }.data.toList then e_10 == e_16 else false then { data := (List.take n_24 (List.drop (0 : Nat) ys_23)).toArray : ByteArray }.data.toList == { data := (List.take n_30 (List.drop (0 : Nat) ys_29)).toArray : ByteArray }.data.toList else false then e_22 == e_28 else false)
     (∀ (r_86 : Bool),
      (r_86 = true ↔ s_35 = s_48 ∧ c_36 = c_49 ∧ o_37 = o_50 ∧ List.take n_39 (List.drop (0 : Nat) l_38) = List.take n_52 (List.drop (0 : Nat) l_51)) →
      br (bif bif true then r_86 else false then e_34 == e_47 else false)
       (∀ (r_88 : Bool),
        (r_88 = true ↔ s_61 = s_74 ∧ c_62 = c_75 ∧ o_63 = o_76 ∧ List.take n_65 (List.drop (0 : Nat) l_64) = List.take n_78 (List.drop (0 : Nat) l_77)) →
        (k (AV.bool (bif bif bif true then r_88 else false then e_60 == e_73 else false then { data := (List.take b.length (List.drop (0 : Nat) z8)).toArray : ByteArray }.data.toList == { data := b.toArray : ByteArray }.data.toList else false)) [] []))
       ((false = false) ∧
        (k (AV.bool (bif bif false then e_60 == e_73 else false then { data := (List.take b.length (List.drop (0 : Nat) z8)).toArray : ByteArray }.data.toList == { data := b.toArray : ByteArray }.data.toList else false)) [] [])))
     ((false = false) ∧
      (false = false) ∧
      (k (AV.bool (bif bif false then e_60 == e_73 else false then { data := (List.take b.length (List.drop (0 : Nat) z8)).toArray : ByteArray }.data.toList == { data := b.toArray : ByteArray }.data.toList else false)) [] []))) := by
  intro n1
  intro q1 -- n1 = (↑l.length : Int)
  intro ⟨l1, u1⟩ -- (-9223372036854775808 : Int) ≤ n1 ∧ n1 ≤ (9223372036854775807 : Int)
  intro n4
  intro q4 -- n4 = (↑l2.length : Int)
  intro n6
  intro q6 -- n6 = (↑b.length : Int)
  refine br_intro (fun c1 => ?_) (fun c1 => ?_) -- bif bif decide (n1 > (1000 : Int)) then true else decide (n4 > (1000 : Int)) then true else decide (n6 > (5000 : Int))
  · -- yes
    simp at c1 -- ((1000 : Int) < n1 ∨ (1000 : Int) < n4) ∨ (5000 : Int) < n6
    exact by exact hk -- k (AV.bool true) [] []
  · -- no
    simp at c1 -- (n1 ≤ (1000 : Int) ∧ n4 ≤ (1000 : Int)) ∧ n6 ≤ (5000 : Int)
    refine ⟨by first | omega | (dsimp only; omega), ?_⟩ -- b.length * (1 : Nat) ≤ (140737488355328 : Nat)
    intro z8
    intro qz8 -- z8 = b
    refine ⟨by first | omega | (dsimp only; omega), ?_⟩ -- l.length ≤ (1000000 : Nat)
    intro e_10
    intro ys_11
    intro n_12
    intro h2 -- e_10 = cE s c o l
    intro h3 -- ys_11 = cO s c o l
    intro h4 -- ys_11.length = n_12
    refine ⟨by first | omega | (dsimp only; omega), ?_⟩ -- l.length ≤ (1000000 : Nat)
    intro e_16
    intro ys_17
    intro n_18
    intro h5 -- e_16 = cE s c o l
    intro h6 -- ys_17 = cO s c o l
    intro h7 -- ys_17.length = n_18
    refine ⟨by first | omega | (dsimp only; omega), ?_⟩ -- l2.length ≤ (1000000 : Nat)
    intro e_22
    intro ys_23
    intro n_24
    intro h8 -- e_22 = rE s2 m t l2
    intro h9 -- ys_23 = rO s2 m t l2
    intro h10 -- ys_23.length = n_24
    refine ⟨by first | omega | (dsimp only; omega), ?_⟩ -- l2.length ≤ (1000000 : Nat)
    intro e_28
    intro ys_29
    intro n_30
    intro h11 -- e_28 = rE s2 m t l2
    intro h12 -- ys_29 = rO s2 m t l2
    intro h13 -- ys_29.length = n_30
    have h14 : (List.take b.length (List.drop (0 : Nat) z8)).length ≤ (1000000 : Nat) := by
      rw [List.length_take, List.length_drop, qz8]; omega
    refine ⟨h14, ?_⟩
    intro e_34
    intro s_35
    intro c_36
    intro o_37
    intro l_38
    intro n_39
    intro h15 -- e_34 = ofE (ansC (List.take b.length (List.drop (0 : Nat) z8)))
    intro h16 -- s_35 = of1 (ansC (List.take b.length (List.drop (0 : Nat) z8)))
    intro h17 -- c_36 = of2 (ansC (List.take b.length (List.drop (0 : Nat) z8)))
    intro h18 -- o_37 = of3 (ansC (List.take b.length (List.drop (0 : Nat) z8)))
    intro h19 -- l_38 = of4 (ansC (List.take b.length (List.drop (0 : Nat) z8)))
    intro h20 -- l_38.length = n_39
    intro h21 -- n_39 ≤ (8 : Nat)
    refine ⟨by first | omega | (dsimp only; omega), ?_⟩ -- b.length ≤ (1000000 : Nat)
    intro e_47
    intro s_48
    intro c_49
    intro o_50
    intro l_51
    intro n_52
    intro h22 -- e_47 = ofE (ansC b)
    intro h23 -- s_48 = of1 (ansC b)
    intro h24 -- c_49 = of2 (ansC b)
    intro h25 -- o_50 = of3 (ansC b)
    intro h26 -- l_51 = of4 (ansC b)
    intro h27 -- l_51.length = n_52
    intro h28 -- n_52 ≤ (8 : Nat)
    refine ⟨by assumption, ?_⟩ -- (List.take b.length (List.drop (0 : Nat) z8)).length ≤ (1000000 : Nat)
    intro e_60
    intro s_61
    intro c_62
    intro o_63
    intro l_64
    intro n_65
    intro h29 -- e_60 = ofE (ansR (List.take b.length (List.drop (0 : Nat) z8)))
    intro h30 -- s_61 = of1 (ansR (List.take b.length (List.drop (0 : Nat) z8)))
    intro h31 -- c_62 = of2 (ansR (List.take b.length (List.drop (0 : Nat) z8)))
    intro h32 -- o_63 = of3 (ansR (List.take b.length (List.drop (0 : Nat) z8)))
    intro h33 -- l_64 = of4 (ansR (List.take b.length (List.drop (0 : Nat) z8)))
    intro h34 -- l_64.length = n_65
    intro h35 -- n_65 ≤ (8 : Nat)
    refine ⟨by first | omega | (dsimp only; omega), ?_⟩ -- b.length ≤ (1000000 : Nat)
    intro e_73
    intro s_74
    intro c_75
    intro o_76
    intro l_77
    intro n_78
    intro h36 -- e_73 = ofE (ansR b)
    intro h37 -- s_74 = of1 (ansR b)
    intro h38 -- c_75 = of2 (ansR b)
    intro h39 -- o_76 = of3 (ansR b)
    intro h40 -- l_77 = of4 (ansR b)
    intro h41 -- l_77.length = n_78
    intro h42 -- n_78 ≤ (8 : Nat)
    refine br_intro (fun c43 => ?_) (fun c43 => ?_) -- bif bif bif { data := (List.take n_12 (List.drop (0 : Nat) ys_11)).toArray : ByteArray }.data.toList == { data := (List.take n_18 (List.drop (0 : Nat) ys_17)).toArray : ByteArray }.data.toList then e_10 == e_16 else false then { data := (List.take n_24 (List.drop (0 : Nat) ys_23)).toArray : ByteArray }.data.toList == { data := (List.take n_30 (List.drop (0 : Nat) ys_29)).toArray : ByteArray }.data.toList else false then e_22 == e_28 else false
    · -- yes
      simp at c43 -- ((List.take n_12 ys_11 = List.take n_18 ys_17 ∧ e_10 = e_16) ∧ List.take n_24 ys_23 = List.take n_30 ys_29) ∧ e_22 = e_28
      intro r_86
      intro h44 -- r_86 = true ↔ s_35 = s_48 ∧ c_36 = c_49 ∧ o_37 = o_50 ∧ List.take n_39 (List.drop (0 : Nat) l_38) = List.take n_52 (List.drop (0 : Nat) l_51)
      refine br_intro (fun c45 => ?_) (fun c45 => ?_) -- bif bif true then r_86 else false then e_34 == e_47 else false
      · -- yes
        simp at c45 -- r_86 = true ∧ e_34 = e_47
        intro r_88
        intro h46 -- r_88 = true ↔ s_61 = s_74 ∧ c_62 = c_75 ∧ o_63 = o_76 ∧ List.take n_65 (List.drop (0 : Nat) l_64) = List.take n_78 (List.drop (0 : Nat) l_77)
        -- k (AV.bool (bif bif bif true then r_88 else false then e_60 == e_73 else false then { data := (List.take b.length (List.drop (0 : Nat) z8)).toArray : ByteArray }.data.toList == { data := b.toArray : ByteArray }.data.toList else false)) [] []
        have TB : List.take b.length (List.drop 0 z8) = b := by rw [qz8, List.drop_zero, List.take_length]
        rw [TB] at h29 h30 h31 h32 h33
        have R : r_88 = true := h46.2 ⟨h30.trans h37.symm, h31.trans h38.symm, h32.trans h39.symm, (by rw [List.drop_zero, List.drop_zero, ← h34, ← h41, List.take_length, List.take_length, h33, h40])⟩
        exact k_true hk (by rw [R, h29, h36, TB]; simp)
      · -- no
        simp at c45 -- r_86 = true → ¬e_34 = e_47
        refine ⟨by with_reducible rfl, ?_⟩ -- false = false
        -- k (AV.bool (bif bif false then e_60 == e_73 else false then { data := (List.take b.length (List.drop (0 : Nat) z8)).toArray : ByteArray }.data.toList == { data := b.toArray : ByteArray }.data.toList else false)) [] []
        have TB : List.take b.length (List.drop 0 z8) = b := by rw [qz8, List.drop_zero, List.take_length]
        rw [TB] at h15 h16 h17 h18 h19
        exfalso
        exact c45 (h44.2 ⟨h16.trans h23.symm, h17.trans h24.symm, h18.trans h25.symm, (by rw [List.drop_zero, List.drop_zero, ← h20, ← h27, List.take_length, List.take_length, h19, h26])⟩) (h15.trans h22.symm)
    · -- no
      simp at c43 -- List.take n_12 ys_11 = List.take n_18 ys_17 → e_10 = e_16 → List.take n_24 ys_23 = List.take n_30 ys_29 → ¬e_22 = e_28
      refine ⟨by with_reducible rfl, ?_⟩ -- false = false
      refine ⟨by with_reducible rfl, ?_⟩ -- false = false
      -- k (AV.bool (bif bif false then e_60 == e_73 else false then { data := (List.take b.length (List.drop (0 : Nat) z8)).toArray : ByteArray }.data.toList == { data := b.toArray : ByteArray }.data.toList else false)) [] []
      exfalso
      exact c43 (by rw [← h4, ← h7, List.take_length, List.take_length, h3, h6] : List.take n_12 ys_11 = List.take n_18 ys_17) (h2.trans h5.symm) (by rw [← h10, ← h13, List.take_length, List.take_length, h9, h12] : List.take n_24 ys_23 = List.take n_30 ys_29) (h8.trans h11.symm)

theorem linkBodies_ok : Holds Try.prog 7 lawBodies := by
  refine fn_sound (env := mkEnv M5) (tab_ok M5_ok) Try.func7 Try.call7 fun args k h => ?_
  match args, h with
  | [.agg [.int .i64 s, .int .i64 c, .int .i64 o, .sl 1 l], .agg [.int .i64 s2, .int .u8 m, .int .i64 t, .sl 1 l2], .sl 0 b], h => exact ⟨by kernel_rfl, fun _ _ => none, fun _ _ => none, .cast (by kernel_rfl) (linkBodies_vc s h.1.1 h.1.2 c h.2.1.1 h.2.1.2 o h.2.2.1.1 h.2.2.1.2 l s2 h.2.2.2.1.1 h.2.2.2.1.2 m h.2.2.2.2.1.1 h.2.2.2.2.1.2 t h.2.2.2.2.2.1.1 h.2.2.2.2.2.1.2 l2 b k h.2.2.2.2.2.2)⟩
set_option maxHeartbeats 2000000 in
theorem linkBack_vc (s : Int) (s0 : (-9223372036854775808 : Int) ≤ s) (s1 : s ≤ (9223372036854775807 : Int)) (c : Int) (c0 : (-9223372036854775808 : Int) ≤ c) (c1 : c ≤ (9223372036854775807 : Int)) (o : Int) (o0 : (-9223372036854775808 : Int) ≤ o) (o1 : o ≤ (9223372036854775807 : Int)) (l : List Int) (s2 : Int) (s20 : (-9223372036854775808 : Int) ≤ s2) (s21 : s2 ≤ (9223372036854775807 : Int)) (m : Int) (m0 : (0 : Int) ≤ m) (m1 : m ≤ (255 : Int)) (t : Int) (t0 : (-9223372036854775808 : Int) ≤ t) (t1 : t ≤ (9223372036854775807 : Int)) (l2 : List Int) (b : List UInt8) (k : AV → List (Option Blk) → List Blk → Prop) (hk : k (AV.bool true) [] []) :
  ∀ (n1 : Int),
  (n1 = (↑l.length : Int)) →
  ((-9223372036854775808 : Int) ≤ n1 ∧ n1 ≤ (9223372036854775807 : Int)) →
  ∀ (n4 : Int),
  (n4 = (↑l2.length : Int)) →
  ∀ (n6 : Int),
  (n6 = (↑b.length : Int)) →
  br (bif bif decide (n1 > (1000 : Int)) then true else decide (n4 > (1000 : Int)) then true else decide (n6 > (5000 : Int)))
   ((k (AV.bool true) [] []))
   ((l.length ≤ (1000000 : Nat)) ∧
    ∀ (e_8 : Int),
    ∀ (ys_9 : List UInt8),
    ∀ (n_10 : Nat),
    (e_8 = cE s c o l) →
    (ys_9 = cO s c o l) →
    (ys_9.length = n_10) →
    br (e_8 == (0 : Int))
     (((List.take n_10 (List.drop (0 : Nat) ys_9)).length ≤ (1000000 : Nat)) ∧
      ∀ (e_14 : Int),
      ∀ (s_15 : Int),
      ∀ (c_16 : Int),
      ∀ (o_17 : Int),
      ∀ (l_18 : List Int),
      ∀ (n_19 : Nat),
      (e_14 = ofE (ansC (List.take n_10 (List.drop (0 : Nat) ys_9)))) →
      (s_15 = of1 (ansC (List.take n_10 (List.drop (0 : Nat) ys_9)))) →
      (c_16 = of2 (ansC (List.take n_10 (List.drop (0 : Nat) ys_9)))) →
      (o_17 = of3 (ansC (List.take n_10 (List.drop (0 : Nat) ys_9)))) →
      (l_18 = of4 (ansC (List.take n_10 (List.drop (0 : Nat) ys_9)))) →
      (l_18.length = n_19) →
      (n_19 ≤ (8 : Nat)) →
      br (e_14 != (0 : Int))
       ((true = true) ∧
        ∀ (n27 : Int),
        (n27 = (↑n_10 : Int)) →
        (k (AV.bool false) [] []))
       (∀ (r_28 : Bool),
        (r_28 = true ↔ s_15 = s ∧ c_16 = c ∧ o_17 = o ∧ List.take n_19 (List.drop (0 : Nat) l_18) = l) →
        ∀ (n30 : Int),
        (n30 = (↑n_10 : Int)) →
        br (bif bif false then true else !r_28 then true else decide (n30 > (512 : Int)))
         ((k (AV.bool false) [] []))
         ((l2.length ≤ (1000000 : Nat)) ∧
          ∀ (e_32 : Int),
          ∀ (ys_33 : List UInt8),
          ∀ (n_34 : Nat),
          (e_32 = rE s2 m t l2) →
          (ys_33 = rO s2 m t l2) →
          (ys_33.length = n_34) →
          br (e_32 == (0 : Int))
           (((List.take n_34 (List.drop (0 : Nat) ys_33)).length ≤ (1000000 : Nat)) ∧
            ∀ (e_38 : Int),
            ∀ (s_39 : Int),
            ∀ (c_40 : Int),
            ∀ (o_41 : Int),
            ∀ (l_42 : List Int),
            ∀ (n_43 : Nat),
            (e_38 = ofE (ansR (List.take n_34 (List.drop (0 : Nat) ys_33)))) →
            (s_39 = of1 (ansR (List.take n_34 (List.drop (0 : Nat) ys_33)))) →
            (c_40 = of2 (ansR (List.take n_34 (List.drop (0 : Nat) ys_33)))) →
            (o_41 = of3 (ansR (List.take n_34 (List.drop (0 : Nat) ys_33)))) →
            (l_42 = of4 (ansR (List.take n_34 (List.drop (0 : Nat) ys_33)))) →
            (l_42.length = n_43) →
            (n_43 ≤ (8 : Nat)) →
            br (e_38 != (0 : Int))
             ((true = true) ∧
              ∀ (n51 : Int),
              (n51 = (↑n_34 : Int)) →
              (k (AV.bool false) [] []))
             (∀ (r_52 : Bool),
              (r_52 = true ↔ s_39 = s2 ∧ c_40 = m ∧ o_41 = t ∧ List.take n_43 (List.drop (0 : Nat) l_42) = l2) →
              ∀ (n54 : Int),
              (n54 = (↑n_34 : Int)) →
              br (bif bif false then true else !r_52 then true else decide (n54 > (512 : Int)))
               ((k (AV.bool false) [] []))
               ((b.length ≤ (1000000 : Nat)) ∧
                ∀ (e_56 : Int),
                ∀ (s_57 : Int),
                ∀ (c_58 : Int),
                ∀ (o_59 : Int),
                ∀ (l_60 : List Int),
                ∀ (n_61 : Nat),
                (e_56 = ofE (ansC b)) →
                (s_57 = of1 (ansC b)) →
                (c_58 = of2 (ansC b)) →
                (o_59 = of3 (ansC b)) →
                (l_60 = of4 (ansC b)) →
                (l_60.length = n_61) →
                (n_61 ≤ (8 : Nat)) →
                br (e_56 == (0 : Int))
                 (((List.take n_61 (List.drop (0 : Nat) l_60)).length ≤ (1000000 : Nat)) ∧
                  ∀ (e_69 : Int),
                  ∀ (ys_70 : List UInt8),
                  ∀ (n_71 : Nat),
                  (e_69 = cE s_57 c_58 o_59 (List.take n_61 (List.drop (0 : Nat) l_60))) →
                  (ys_70 = cO s_57 c_58 o_59 (List.take n_61 (List.drop (0 : Nat) l_60))) →
                  (ys_70.length = n_71) →
                  br (bif e_69 != (0 : Int) then true else !{ data := (List.take n_71 (List.drop (0 : Nat) ys_70)).toArray : ByteArray }.data.toList == { data := b.toArray : ByteArray }.data.toList)
                   ((k (AV.bool false) [] []))
                   ((b.length ≤ (1000000 : Nat)) ∧
                    ∀ (e_75 : Int),
                    ∀ (s_76 : Int),
                    ∀ (c_77 : Int),
                    ∀ (o_78 : Int),
                    ∀ (l_79 : List Int),
                    ∀ (n_80 : Nat),
                    (e_75 = ofE (ansR b)) →
                    (s_76 = of1 (ansR b)) →
                    (c_77 = of2 (ansR b)) →
                    (o_78 = of3 (ansR b)) →
                    (l_79 = of4 (ansR b)) →
                    (l_79.length = n_80) →
                    (n_80 ≤ (8 : Nat)) →
                    br (e_75 == (0 : Int))
                     (((List.take n_80 (List.drop (0 : Nat) l_79)).length ≤ (1000000 : Nat)) ∧
                      ∀ (e_88 : Int),
                      ∀ (ys_89 : List UInt8),
                      ∀ (n_90 : Nat),
                      (e_88 = rE s_76 c_77 o_78 (List.take n_80 (List.drop (0 : Nat) l_79))) →
                      (ys_89 = rO s_76 c_77 o_78 (List.take n_80 (List.drop (0 : Nat) l_79))) →
                      (ys_89.length = n_90) →
                      br (bif e_88 != (0 : Int) then true else !{ data := (List.take n_90 (List.drop (0 : Nat) ys_89)).toArray : ByteArray }.data.toList == { data := b.toArray : ByteArray }.data.toList)
                       ((k (AV.bool false) [] []))
                       ((k (AV.bool true) [] [])))
                     ((k (AV.bool true) [] []))))
                 ((b.length ≤ (1000000 : Nat)) ∧
                  ∀ (e_94 : Int),
                  ∀ (s_95 : Int),
                  ∀ (c_96 : Int),
                  ∀ (o_97 : Int),
                  ∀ (l_98 : List Int),
                  ∀ (n_99 : Nat),
                  (e_94 = ofE (ansR b)) →
                  (s_95 = of1 (ansR b)) →
                  (c_96 = of2 (ansR b)) →
                  (o_97 = of3 (ansR b)) →
                  (l_98 = of4 (ansR b)) →
                  (l_98.length = n_99) →
                  (n_99 ≤ (8 : Nat)) →
                  br (e_94 == (0 : Int))
                   (((List.take n_99 (List.drop (0 : Nat) l_98)).length ≤ (1000000 : Nat)) ∧
                    ∀ (e_107 : Int),
                    ∀ (ys_108 : List UInt8),
                    ∀ (n_109 : Nat),
                    (e_107 = rE s_95 c_96 o_97 (List.take n_99 (List.drop (0 : Nat) l_98))) →
                    (ys_108 = rO s_95 c_96 o_97 (List.take n_99 (List.drop (0 : Nat) l_98))) →
                    (ys_108.length = n_109) →
                    br (bif e_107 != (0 : Int) then true else !{ data := (List.take n_109 (List.drop (0 : Nat) ys_108)).toArray : ByteArray }.data.toList == { data := b.toArray : ByteArray }.data.toList)
                     ((k (AV.bool false) [] []))
                     ((k (AV.bool true) [] [])))
                   ((k (AV.bool true) [] []))))))
           ((b.length ≤ (1000000 : Nat)) ∧
            ∀ (e_113 : Int),
            ∀ (s_114 : Int),
            ∀ (c_115 : Int),
            ∀ (o_116 : Int),
            ∀ (l_117 : List Int),
            ∀ (n_118 : Nat),
            (e_113 = ofE (ansC b)) →
            (s_114 = of1 (ansC b)) →
            (c_115 = of2 (ansC b)) →
            (o_116 = of3 (ansC b)) →
            (l_117 = of4 (ansC b)) →
            (l_117.length = n_118) →
            (n_118 ≤ (8 : Nat)) →
            br (e_113 == (0 : Int))
             (((List.take n_118 (List.drop (0 : Nat) l_117)).length ≤ (1000000 : Nat)) ∧
              ∀ (e_126 : Int),
              ∀ (ys_127 : List UInt8),
              ∀ (n_128 : Nat),
              (e_126 = cE s_114 c_115 o_116 (List.take n_118 (List.drop (0 : Nat) l_117))) →
              (ys_127 = cO s_114 c_115 o_116 (List.take n_118 (List.drop (0 : Nat) l_117))) →
              (ys_127.length = n_128) →
              br (bif e_126 != (0 : Int) then true else !{ data := (List.take n_128 (List.drop (0 : Nat) ys_127)).toArray : ByteArray }.data.toList == { data := b.toArray : ByteArray }.data.toList)
               ((k (AV.bool false) [] []))
               ((b.length ≤ (1000000 : Nat)) ∧
                ∀ (e_132 : Int),
                ∀ (s_133 : Int),
                ∀ (c_134 : Int),
                ∀ (o_135 : Int),
                ∀ (l_136 : List Int),
                ∀ (n_137 : Nat),
                (e_132 = ofE (ansR b)) →
                (s_133 = of1 (ansR b)) →
                (c_134 = of2 (ansR b)) →
                (o_135 = of3 (ansR b)) →
                (l_136 = of4 (ansR b)) →
                (l_136.length = n_137) →
                (n_137 ≤ (8 : Nat)) →
                br (e_132 == (0 : Int))
                 (((List.take n_137 (List.drop (0 : Nat) l_136)).length ≤ (1000000 : Nat)) ∧
                  ∀ (e_145 : Int),
                  ∀ (ys_146 : List UInt8),
                  ∀ (n_147 : Nat),
                  (e_145 = rE s_133 c_134 o_135 (List.take n_137 (List.drop (0 : Nat) l_136))) →
                  (ys_146 = rO s_133 c_134 o_135 (List.take n_137 (List.drop (0 : Nat) l_136))) →
                  (ys_146.length = n_147) →
                  br (bif e_145 != (0 : Int) then true else !{ data := (List.take n_147 (List.drop (0 : Nat) ys_146)).toArray : ByteArray }.data.toList == { data := b.toArray : ByteArray }.data.toList)
                   ((k (AV.bool false) [] []))
                   ((k (AV.bool true) [] [])))
                 ((k (AV.bool true) [] []))))
             ((b.length ≤ (1000000 : Nat)) ∧
              ∀ (e_151 : Int),
              ∀ (s_152 : Int),
              ∀ (c_153 : Int),
              ∀ (o_154 : Int),
              ∀ (l_155 : List Int),
              ∀ (n_156 : Nat),
              (e_151 = ofE (ansR b)) →
              (s_152 = of1 (ansR b)) →
              (c_153 = of2 (ansR b)) →
              (o_154 = of3 (ansR b)) →
              (l_155 = of4 (ansR b)) →
              (l_155.length = n_156) →
              (n_156 ≤ (8 : Nat)) →
              br (e_151 == (0 : Int))
               (((List.take n_156 (List.drop (0 : Nat) l_155)).length ≤ (1000000 : Nat)) ∧
                ∀ (e_164 : Int),
                ∀ (ys_165 : List UInt8),
                ∀ (n_166 : Nat),
                (e_164 = rE s_152 c_153 o_154 (List.take n_156 (List.drop (0 : Nat) l_155))) →
                (ys_165 = rO s_152 c_153 o_154 (List.take n_156 (List.drop (0 : Nat) l_155))) →
                (ys_165.length = n_166) →
                br (bif e_164 != (0 : Int) then true else !{ data := (List.take n_166 (List.drop (0 : Nat) ys_165)).toArray : ByteArray }.data.toList == { data := b.toArray : ByteArray }.data.toList)
                 ((k (AV.bool false) [] []))
                 ((k (AV.bool true) [] [])))
               ((k (AV.bool true) [] [])))))))
     ((l2.length ≤ (1000000 : Nat)) ∧
      ∀ (e_170 : Int),
      ∀ (ys_171 : List UInt8),
      ∀ (n_172 : Nat),
      (e_170 = rE s2 m t l2) →
      (ys_171 = rO s2 m t l2) →
      (ys_171.length = n_172) →
      br (e_170 == (0 : Int))
       (((List.take n_172 (List.drop (0 : Nat) ys_171)).length ≤ (1000000 : Nat)) ∧
        ∀ (e_176 : Int),
        ∀ (s_177 : Int),
        ∀ (c_178 : Int),
        ∀ (o_179 : Int),
        ∀ (l_180 : List Int),
        ∀ (n_181 : Nat),
        (e_176 = ofE (ansR (List.take n_172 (List.drop (0 : Nat) ys_171)))) →
        (s_177 = of1 (ansR (List.take n_172 (List.drop (0 : Nat) ys_171)))) →
        (c_178 = of2 (ansR (List.take n_172 (List.drop (0 : Nat) ys_171)))) →
        (o_179 = of3 (ansR (List.take n_172 (List.drop (0 : Nat) ys_171)))) →
        (l_180 = of4 (ansR (List.take n_172 (List.drop (0 : Nat) ys_171)))) →
        (l_180.length = n_181) →
        (n_181 ≤ (8 : Nat)) →
        br (e_176 != (0 : Int))
         ((true = true) ∧
          ∀ (n189 : Int),
          (n189 = (↑n_172 : Int)) →
          (k (AV.bool false) [] []))
         (∀ (r_190 : Bool),
          (r_190 = true ↔ s_177 = s2 ∧ c_178 = m ∧ o_179 = t ∧ List.take n_181 (List.drop (0 : Nat) l_180) = l2) →
          ∀ (n192 : Int),
          (n192 = (↑n_172 : Int)) →
          br (bif bif false then true else !r_190 then true else decide (n192 > (512 : Int)))
           ((k (AV.bool false) [] []))
           ((b.length ≤ (1000000 : Nat)) ∧
            ∀ (e_194 : Int),
            ∀ (s_195 : Int),
            ∀ (c_196 : Int),
            ∀ (o_197 : Int),
            ∀ (l_198 : List Int),
            ∀ (n_199 : Nat),
            (e_194 = ofE (ansC b)) →
            (s_195 = of1 (ansC b)) →
            (c_196 = of2 (ansC b)) →
            (o_197 = of3 (ansC b)) →
            (l_198 = of4 (ansC b)) →
            (l_198.length = n_199) →
            (n_199 ≤ (8 : Nat)) →
            br (e_194 == (0 : Int))
             (((List.take n_199 (List.drop (0 : Nat) l_198)).length ≤ (1000000 : Nat)) ∧
              ∀ (e_207 : Int),
              ∀ (ys_208 : List UInt8),
              ∀ (n_209 : Nat),
              (e_207 = cE s_195 c_196 o_197 (List.take n_199 (List.drop (0 : Nat) l_198))) →
              (ys_208 = cO s_195 c_196 o_197 (List.take n_199 (List.drop (0 : Nat) l_198))) →
              (ys_208.length = n_209) →
              br (bif e_207 != (0 : Int) then true else !{ data := (List.take n_209 (List.drop (0 : Nat) ys_208)).toArray : ByteArray }.data.toList == { data := b.toArray : ByteArray }.data.toList)
               ((k (AV.bool false) [] []))
               ((b.length ≤ (1000000 : Nat)) ∧
                ∀ (e_213 : Int),
                ∀ (s_214 : Int),
                ∀ (c_215 : Int),
                ∀ (o_216 : Int),
                ∀ (l_217 : List Int),
                ∀ (n_218 : Nat),
                (e_213 = ofE (ansR b)) →
                (s_214 = of1 (ansR b)) →
                (c_215 = of2 (ansR b)) →
                (o_216 = of3 (ansR b)) →
                (l_217 = of4 (ansR b)) →
                (l_217.length = n_218) →
                (n_218 ≤ (8 : Nat)) →
                br (e_213 == (0 : Int))
                 (((List.take n_218 (List.drop (0 : Nat) l_217)).length ≤ (1000000 : Nat)) ∧
                  ∀ (e_226 : Int),
                  ∀ (ys_227 : List UInt8),
                  ∀ (n_228 : Nat),
                  (e_226 = rE s_214 c_215 o_216 (List.take n_218 (List.drop (0 : Nat) l_217))) →
                  (ys_227 = rO s_214 c_215 o_216 (List.take n_218 (List.drop (0 : Nat) l_217))) →
                  (ys_227.length = n_228) →
                  br (bif e_226 != (0 : Int) then true else !{ data := (List.take n_228 (List.drop (0 : Nat) ys_227)).toArray : ByteArray }.data.toList == { data := b.toArray : ByteArray }.data.toList)
                   ((k (AV.bool false) [] []))
                   ((k (AV.bool true) [] [])))
                 ((k (AV.bool true) [] []))))
             ((b.length ≤ (1000000 : Nat)) ∧
              ∀ (e_232 : Int),
              ∀ (s_233 : Int),
              ∀ (c_234 : Int),
              ∀ (o_235 : Int),
              ∀ (l_236 : List Int),
              ∀ (n_237 : Nat),
              (e_232 = ofE (ansR b)) →
              (s_233 = of1 (ansR b)) →
              (c_234 = of2 (ansR b)) →
              (o_235 = of3 (ansR b)) →
              (l_236 = of4 (ansR b)) →
              (l_236.length = n_237) →
              (n_237 ≤ (8 : Nat)) →
              br (e_232 == (0 : Int))
               (((List.take n_237 (List.drop (0 : Nat) l_236)).length ≤ (1000000 : Nat)) ∧
                ∀ (e_245 : Int),
                ∀ (ys_246 : List UInt8),
                ∀ (n_247 : Nat),
                (e_245 = rE s_233 c_234 o_235 (List.take n_237 (List.drop (0 : Nat) l_236))) →
                (ys_246 = rO s_233 c_234 o_235 (List.take n_237 (List.drop (0 : Nat) l_236))) →
                (ys_246.length = n_247) →
                br (bif e_245 != (0 : Int) then true else !{ data := (List.take n_247 (List.drop (0 : Nat) ys_246)).toArray : ByteArray }.data.toList == { data := b.toArray : ByteArray }.data.toList)
                 ((k (AV.bool false) [] []))
                 ((k (AV.bool true) [] [])))
               ((k (AV.bool true) [] []))))))
       ((b.length ≤ (1000000 : Nat)) ∧
        ∀ (e_251 : Int),
        ∀ (s_252 : Int),
        ∀ (c_253 : Int),
        ∀ (o_254 : Int),
        ∀ (l_255 : List Int),
        ∀ (n_256 : Nat),
        (e_251 = ofE (ansC b)) →
        (s_252 = of1 (ansC b)) →
        (c_253 = of2 (ansC b)) →
        (o_254 = of3 (ansC b)) →
        (l_255 = of4 (ansC b)) →
        (l_255.length = n_256) →
        (n_256 ≤ (8 : Nat)) →
        br (e_251 == (0 : Int))
         (((List.take n_256 (List.drop (0 : Nat) l_255)).length ≤ (1000000 : Nat)) ∧
          ∀ (e_264 : Int),
          ∀ (ys_265 : List UInt8),
          ∀ (n_266 : Nat),
          (e_264 = cE s_252 c_253 o_254 (List.take n_256 (List.drop (0 : Nat) l_255))) →
          (ys_265 = cO s_252 c_253 o_254 (List.take n_256 (List.drop (0 : Nat) l_255))) →
          (ys_265.length = n_266) →
          br (bif e_264 != (0 : Int) then true else !{ data := (List.take n_266 (List.drop (0 : Nat) ys_265)).toArray : ByteArray }.data.toList == { data := b.toArray : ByteArray }.data.toList)
           ((k (AV.bool false) [] []))
           ((b.length ≤ (1000000 : Nat)) ∧
            ∀ (e_270 : Int),
            ∀ (s_271 : Int),
            ∀ (c_272 : Int),
            ∀ (o_273 : Int),
            ∀ (l_274 : List Int),
            ∀ (n_275 : Nat),
            (e_270 = ofE (ansR b)) →
            (s_271 = of1 (ansR b)) →
            (c_272 = of2 (ansR b)) →
            (o_273 = of3 (ansR b)) →
            (l_274 = of4 (ansR b)) →
            (l_274.length = n_275) →
            (n_275 ≤ (8 : Nat)) →
            br (e_270 == (0 : Int))
             (((List.take n_275 (List.drop (0 : Nat) l_274)).length ≤ (1000000 : Nat)) ∧
              ∀ (e_283 : Int),
              ∀ (ys_284 : List UInt8),
              ∀ (n_285 : Nat),
              (e_283 = rE s_271 c_272 o_273 (List.take n_275 (List.drop (0 : Nat) l_274))) →
              (ys_284 = rO s_271 c_272 o_273 (List.take n_275 (List.drop (0 : Nat) l_274))) →
              (ys_284.length = n_285) →
              br (bif e_283 != (0 : Int) then true else !{ data := (List.take n_285 (List.drop (0 : Nat) ys_284)).toArray : ByteArray }.data.toList == { data := b.toArray : ByteArray }.data.toList)
               ((k (AV.bool false) [] []))
               ((k (AV.bool true) [] [])))
             ((k (AV.bool true) [] []))))
         ((b.length ≤ (1000000 : Nat)) ∧
          ∀ (e_289 : Int),
          ∀ (s_290 : Int),
          ∀ (c_291 : Int),
          ∀ (o_292 : Int),
          ∀ (l_293 : List Int),
          ∀ (n_294 : Nat),
          (e_289 = ofE (ansR b)) →
          (s_290 = of1 (ansR b)) →
          (c_291 = of2 (ansR b)) →
          (o_292 = of3 (ansR b)) →
          (l_293 = of4 (ansR b)) →
          (l_293.length = n_294) →
          (n_294 ≤ (8 : Nat)) →
          br (e_289 == (0 : Int))
           (((List.take n_294 (List.drop (0 : Nat) l_293)).length ≤ (1000000 : Nat)) ∧
            ∀ (e_302 : Int),
            ∀ (ys_303 : List UInt8),
            ∀ (n_304 : Nat),
            (e_302 = rE s_290 c_291 o_292 (List.take n_294 (List.drop (0 : Nat) l_293))) →
            (ys_303 = rO s_290 c_291 o_292 (List.take n_294 (List.drop (0 : Nat) l_293))) →
            (ys_303.length = n_304) →
            br (bif e_302 != (0 : Int) then true else !{ data := (List.take n_304 (List.drop (0 : Nat) ys_303)).toArray : ByteArray }.data.toList == { data := b.toArray : ByteArray }.data.toList)
             ((k (AV.bool false) [] []))
             ((k (AV.bool true) [] [])))
           ((k (AV.bool true) [] [])))))) := by
  intro n1
  intro q1 -- n1 = (↑l.length : Int)
  intro ⟨l1, u1⟩ -- (-9223372036854775808 : Int) ≤ n1 ∧ n1 ≤ (9223372036854775807 : Int)
  intro n4
  intro q4 -- n4 = (↑l2.length : Int)
  intro n6
  intro q6 -- n6 = (↑b.length : Int)
  refine br_intro (fun c1 => ?_) (fun c1 => ?_) -- bif bif decide (n1 > (1000 : Int)) then true else decide (n4 > (1000 : Int)) then true else decide (n6 > (5000 : Int))
  · -- yes
    simp at c1 -- ((1000 : Int) < n1 ∨ (1000 : Int) < n4) ∨ (5000 : Int) < n6
    exact by exact hk -- k (AV.bool true) [] []
  · -- no
    simp at c1 -- (n1 ≤ (1000 : Int) ∧ n4 ≤ (1000 : Int)) ∧ n6 ≤ (5000 : Int)
    refine ⟨by first | omega | (dsimp only; omega), ?_⟩ -- l.length ≤ (1000000 : Nat)
    intro e_8
    intro ys_9
    intro n_10
    intro h2 -- e_8 = cE s c o l
    intro h3 -- ys_9 = cO s c o l
    intro h4 -- ys_9.length = n_10
    refine br_intro (fun c5 => ?_) (fun c5 => ?_) -- e_8 == (0 : Int)
    · -- yes
      simp at c5 -- e_8 = (0 : Int)
      have h6 : (List.take n_10 (List.drop (0 : Nat) ys_9)).length ≤ (1000000 : Nat) := by
        have F := fwdC h2 c5 h3 h4
        rw [List.length_take]; omega
      refine ⟨h6, ?_⟩
      intro e_14
      intro s_15
      intro c_16
      intro o_17
      intro l_18
      intro n_19
      intro h7 -- e_14 = ofE (ansC (List.take n_10 (List.drop (0 : Nat) ys_9)))
      intro h8 -- s_15 = of1 (ansC (List.take n_10 (List.drop (0 : Nat) ys_9)))
      intro h9 -- c_16 = of2 (ansC (List.take n_10 (List.drop (0 : Nat) ys_9)))
      intro h10 -- o_17 = of3 (ansC (List.take n_10 (List.drop (0 : Nat) ys_9)))
      intro h11 -- l_18 = of4 (ansC (List.take n_10 (List.drop (0 : Nat) ys_9)))
      intro h12 -- l_18.length = n_19
      intro h13 -- n_19 ≤ (8 : Nat)
      refine br_intro (fun c14 => ?_) (fun c14 => ?_) -- e_14 != (0 : Int)
      · -- yes
        simp at c14 -- ¬e_14 = (0 : Int)
        refine ⟨by with_reducible rfl, ?_⟩ -- true = true
        intro n27
        intro q27 -- n27 = (↑n_10 : Int)
        -- k (AV.bool false) [] []
        exact (fwd_e (fwdC h2 c5 h3 h4).2 h7 c14).elim
      · -- no
        simp at c14 -- e_14 = (0 : Int)
        intro r_28
        intro h15 -- r_28 = true ↔ s_15 = s ∧ c_16 = c ∧ o_17 = o ∧ List.take n_19 (List.drop (0 : Nat) l_18) = l
        intro n30
        intro q30 -- n30 = (↑n_10 : Int)
        refine br_intro (fun c16 => ?_) (fun c16 => ?_) -- bif bif false then true else !r_28 then true else decide (n30 > (512 : Int))
        · -- yes
          simp at c16 -- r_28 = false ∨ (512 : Int) < n30
          -- k (AV.bool false) [] []
          exact (fwd_r (fwdC h2 c5 h3 h4) h8 h9 h10 h11 h12 h15 q30 c16).elim
        · -- no
          simp at c16 -- r_28 = true ∧ n30 ≤ (512 : Int)
          refine ⟨by first | omega | (dsimp only; omega), ?_⟩ -- l2.length ≤ (1000000 : Nat)
          intro e_32
          intro ys_33
          intro n_34
          intro h17 -- e_32 = rE s2 m t l2
          intro h18 -- ys_33 = rO s2 m t l2
          intro h19 -- ys_33.length = n_34
          refine br_intro (fun c20 => ?_) (fun c20 => ?_) -- e_32 == (0 : Int)
          · -- yes
            simp at c20 -- e_32 = (0 : Int)
            have h21 : (List.take n_34 (List.drop (0 : Nat) ys_33)).length ≤ (1000000 : Nat) := by
              have F := fwdR (by omega) h17 c20 h18 h19
              rw [List.length_take]; omega
            refine ⟨h21, ?_⟩
            intro e_38
            intro s_39
            intro c_40
            intro o_41
            intro l_42
            intro n_43
            intro h22 -- e_38 = ofE (ansR (List.take n_34 (List.drop (0 : Nat) ys_33)))
            intro h23 -- s_39 = of1 (ansR (List.take n_34 (List.drop (0 : Nat) ys_33)))
            intro h24 -- c_40 = of2 (ansR (List.take n_34 (List.drop (0 : Nat) ys_33)))
            intro h25 -- o_41 = of3 (ansR (List.take n_34 (List.drop (0 : Nat) ys_33)))
            intro h26 -- l_42 = of4 (ansR (List.take n_34 (List.drop (0 : Nat) ys_33)))
            intro h27 -- l_42.length = n_43
            intro h28 -- n_43 ≤ (8 : Nat)
            refine br_intro (fun c29 => ?_) (fun c29 => ?_) -- e_38 != (0 : Int)
            · -- yes
              simp at c29 -- ¬e_38 = (0 : Int)
              refine ⟨by with_reducible rfl, ?_⟩ -- true = true
              intro n51
              intro q51 -- n51 = (↑n_34 : Int)
              -- k (AV.bool false) [] []
              exact (fwd_e (fwdR (by omega) h17 c20 h18 h19).2 h22 c29).elim
            · -- no
              simp at c29 -- e_38 = (0 : Int)
              intro r_52
              intro h30 -- r_52 = true ↔ s_39 = s2 ∧ c_40 = m ∧ o_41 = t ∧ List.take n_43 (List.drop (0 : Nat) l_42) = l2
              intro n54
              intro q54 -- n54 = (↑n_34 : Int)
              refine br_intro (fun c31 => ?_) (fun c31 => ?_) -- bif bif false then true else !r_52 then true else decide (n54 > (512 : Int))
              · -- yes
                simp at c31 -- r_52 = false ∨ (512 : Int) < n54
                -- k (AV.bool false) [] []
                exact (fwd_r (fwdR (by omega) h17 c20 h18 h19) h23 h24 h25 h26 h27 h30 q54 c31).elim
              · -- no
                simp at c31 -- r_52 = true ∧ n54 ≤ (512 : Int)
                refine ⟨by first | omega | (dsimp only; omega), ?_⟩ -- b.length ≤ (1000000 : Nat)
                intro e_56
                intro s_57
                intro c_58
                intro o_59
                intro l_60
                intro n_61
                intro h32 -- e_56 = ofE (ansC b)
                intro h33 -- s_57 = of1 (ansC b)
                intro h34 -- c_58 = of2 (ansC b)
                intro h35 -- o_59 = of3 (ansC b)
                intro h36 -- l_60 = of4 (ansC b)
                intro h37 -- l_60.length = n_61
                intro h38 -- n_61 ≤ (8 : Nat)
                refine br_intro (fun c39 => ?_) (fun c39 => ?_) -- e_56 == (0 : Int)
                · -- yes
                  simp at c39 -- e_56 = (0 : Int)
                  have h40 : (List.take n_61 (List.drop (0 : Nat) l_60)).length ≤ (1000000 : Nat) := by
                    rw [List.length_take]; omega
                  refine ⟨h40, ?_⟩
                  intro e_69
                  intro ys_70
                  intro n_71
                  intro h41 -- e_69 = cE s_57 c_58 o_59 (List.take n_61 (List.drop (0 : Nat) l_60))
                  intro h42 -- ys_70 = cO s_57 c_58 o_59 (List.take n_61 (List.drop (0 : Nat) l_60))
                  intro h43 -- ys_70.length = n_71
                  refine br_intro (fun c44 => ?_) (fun c44 => ?_) -- bif e_69 != (0 : Int) then true else !{ data := (List.take n_71 (List.drop (0 : Nat) ys_70)).toArray : ByteArray }.data.toList == { data := b.toArray : ByteArray }.data.toList
                  · -- yes
                    simp at c44 -- ¬e_69 = (0 : Int) ∨ ¬List.take n_71 ys_70 = b
                    -- k (AV.bool false) [] []
                    exact (backC h32 c39 h33 h34 h35 h36 h37 h41 h42 h43 c44).elim
                  · -- no
                    simp at c44 -- e_69 = (0 : Int) ∧ List.take n_71 ys_70 = b
                    refine ⟨by first | omega | (dsimp only; omega), ?_⟩ -- b.length ≤ (1000000 : Nat)
                    intro e_75
                    intro s_76
                    intro c_77
                    intro o_78
                    intro l_79
                    intro n_80
                    intro h45 -- e_75 = ofE (ansR b)
                    intro h46 -- s_76 = of1 (ansR b)
                    intro h47 -- c_77 = of2 (ansR b)
                    intro h48 -- o_78 = of3 (ansR b)
                    intro h49 -- l_79 = of4 (ansR b)
                    intro h50 -- l_79.length = n_80
                    intro h51 -- n_80 ≤ (8 : Nat)
                    refine br_intro (fun c52 => ?_) (fun c52 => ?_) -- e_75 == (0 : Int)
                    · -- yes
                      simp at c52 -- e_75 = (0 : Int)
                      have h53 : (List.take n_80 (List.drop (0 : Nat) l_79)).length ≤ (1000000 : Nat) := by
                        rw [List.length_take]; omega
                      refine ⟨h53, ?_⟩
                      intro e_88
                      intro ys_89
                      intro n_90
                      intro h54 -- e_88 = rE s_76 c_77 o_78 (List.take n_80 (List.drop (0 : Nat) l_79))
                      intro h55 -- ys_89 = rO s_76 c_77 o_78 (List.take n_80 (List.drop (0 : Nat) l_79))
                      intro h56 -- ys_89.length = n_90
                      refine br_intro (fun c57 => ?_) (fun c57 => ?_) -- bif e_88 != (0 : Int) then true else !{ data := (List.take n_90 (List.drop (0 : Nat) ys_89)).toArray : ByteArray }.data.toList == { data := b.toArray : ByteArray }.data.toList
                      · -- yes
                        simp at c57 -- ¬e_88 = (0 : Int) ∨ ¬List.take n_90 ys_89 = b
                        -- k (AV.bool false) [] []
                        exact (backR h45 c52 h46 h47 h48 h49 h50 h54 h55 h56 c57).elim
                      · -- no
                        simp at c57 -- e_88 = (0 : Int) ∧ List.take n_90 ys_89 = b
                        exact by exact hk -- k (AV.bool true) [] []
                    · -- no
                      simp at c52 -- ¬e_75 = (0 : Int)
                      exact by exact hk -- k (AV.bool true) [] []
                · -- no
                  simp at c39 -- ¬e_56 = (0 : Int)
                  refine ⟨by first | omega | (dsimp only; omega), ?_⟩ -- b.length ≤ (1000000 : Nat)
                  intro e_94
                  intro s_95
                  intro c_96
                  intro o_97
                  intro l_98
                  intro n_99
                  intro h58 -- e_94 = ofE (ansR b)
                  intro h59 -- s_95 = of1 (ansR b)
                  intro h60 -- c_96 = of2 (ansR b)
                  intro h61 -- o_97 = of3 (ansR b)
                  intro h62 -- l_98 = of4 (ansR b)
                  intro h63 -- l_98.length = n_99
                  intro h64 -- n_99 ≤ (8 : Nat)
                  refine br_intro (fun c65 => ?_) (fun c65 => ?_) -- e_94 == (0 : Int)
                  · -- yes
                    simp at c65 -- e_94 = (0 : Int)
                    have h66 : (List.take n_99 (List.drop (0 : Nat) l_98)).length ≤ (1000000 : Nat) := by
                      rw [List.length_take]; omega
                    refine ⟨h66, ?_⟩
                    intro e_107
                    intro ys_108
                    intro n_109
                    intro h67 -- e_107 = rE s_95 c_96 o_97 (List.take n_99 (List.drop (0 : Nat) l_98))
                    intro h68 -- ys_108 = rO s_95 c_96 o_97 (List.take n_99 (List.drop (0 : Nat) l_98))
                    intro h69 -- ys_108.length = n_109
                    refine br_intro (fun c70 => ?_) (fun c70 => ?_) -- bif e_107 != (0 : Int) then true else !{ data := (List.take n_109 (List.drop (0 : Nat) ys_108)).toArray : ByteArray }.data.toList == { data := b.toArray : ByteArray }.data.toList
                    · -- yes
                      simp at c70 -- ¬e_107 = (0 : Int) ∨ ¬List.take n_109 ys_108 = b
                      -- k (AV.bool false) [] []
                      exact (backR h58 c65 h59 h60 h61 h62 h63 h67 h68 h69 c70).elim
                    · -- no
                      simp at c70 -- e_107 = (0 : Int) ∧ List.take n_109 ys_108 = b
                      exact by exact hk -- k (AV.bool true) [] []
                  · -- no
                    simp at c65 -- ¬e_94 = (0 : Int)
                    exact by exact hk -- k (AV.bool true) [] []
          · -- no
            simp at c20 -- ¬e_32 = (0 : Int)
            refine ⟨by first | omega | (dsimp only; omega), ?_⟩ -- b.length ≤ (1000000 : Nat)
            intro e_113
            intro s_114
            intro c_115
            intro o_116
            intro l_117
            intro n_118
            intro h71 -- e_113 = ofE (ansC b)
            intro h72 -- s_114 = of1 (ansC b)
            intro h73 -- c_115 = of2 (ansC b)
            intro h74 -- o_116 = of3 (ansC b)
            intro h75 -- l_117 = of4 (ansC b)
            intro h76 -- l_117.length = n_118
            intro h77 -- n_118 ≤ (8 : Nat)
            refine br_intro (fun c78 => ?_) (fun c78 => ?_) -- e_113 == (0 : Int)
            · -- yes
              simp at c78 -- e_113 = (0 : Int)
              have h79 : (List.take n_118 (List.drop (0 : Nat) l_117)).length ≤ (1000000 : Nat) := by
                rw [List.length_take]; omega
              refine ⟨h79, ?_⟩
              intro e_126
              intro ys_127
              intro n_128
              intro h80 -- e_126 = cE s_114 c_115 o_116 (List.take n_118 (List.drop (0 : Nat) l_117))
              intro h81 -- ys_127 = cO s_114 c_115 o_116 (List.take n_118 (List.drop (0 : Nat) l_117))
              intro h82 -- ys_127.length = n_128
              refine br_intro (fun c83 => ?_) (fun c83 => ?_) -- bif e_126 != (0 : Int) then true else !{ data := (List.take n_128 (List.drop (0 : Nat) ys_127)).toArray : ByteArray }.data.toList == { data := b.toArray : ByteArray }.data.toList
              · -- yes
                simp at c83 -- ¬e_126 = (0 : Int) ∨ ¬List.take n_128 ys_127 = b
                -- k (AV.bool false) [] []
                exact (backC h71 c78 h72 h73 h74 h75 h76 h80 h81 h82 c83).elim
              · -- no
                simp at c83 -- e_126 = (0 : Int) ∧ List.take n_128 ys_127 = b
                refine ⟨by first | omega | (dsimp only; omega), ?_⟩ -- b.length ≤ (1000000 : Nat)
                intro e_132
                intro s_133
                intro c_134
                intro o_135
                intro l_136
                intro n_137
                intro h84 -- e_132 = ofE (ansR b)
                intro h85 -- s_133 = of1 (ansR b)
                intro h86 -- c_134 = of2 (ansR b)
                intro h87 -- o_135 = of3 (ansR b)
                intro h88 -- l_136 = of4 (ansR b)
                intro h89 -- l_136.length = n_137
                intro h90 -- n_137 ≤ (8 : Nat)
                refine br_intro (fun c91 => ?_) (fun c91 => ?_) -- e_132 == (0 : Int)
                · -- yes
                  simp at c91 -- e_132 = (0 : Int)
                  have h92 : (List.take n_137 (List.drop (0 : Nat) l_136)).length ≤ (1000000 : Nat) := by
                    rw [List.length_take]; omega
                  refine ⟨h92, ?_⟩
                  intro e_145
                  intro ys_146
                  intro n_147
                  intro h93 -- e_145 = rE s_133 c_134 o_135 (List.take n_137 (List.drop (0 : Nat) l_136))
                  intro h94 -- ys_146 = rO s_133 c_134 o_135 (List.take n_137 (List.drop (0 : Nat) l_136))
                  intro h95 -- ys_146.length = n_147
                  refine br_intro (fun c96 => ?_) (fun c96 => ?_) -- bif e_145 != (0 : Int) then true else !{ data := (List.take n_147 (List.drop (0 : Nat) ys_146)).toArray : ByteArray }.data.toList == { data := b.toArray : ByteArray }.data.toList
                  · -- yes
                    simp at c96 -- ¬e_145 = (0 : Int) ∨ ¬List.take n_147 ys_146 = b
                    -- k (AV.bool false) [] []
                    exact (backR h84 c91 h85 h86 h87 h88 h89 h93 h94 h95 c96).elim
                  · -- no
                    simp at c96 -- e_145 = (0 : Int) ∧ List.take n_147 ys_146 = b
                    exact by exact hk -- k (AV.bool true) [] []
                · -- no
                  simp at c91 -- ¬e_132 = (0 : Int)
                  exact by exact hk -- k (AV.bool true) [] []
            · -- no
              simp at c78 -- ¬e_113 = (0 : Int)
              refine ⟨by first | omega | (dsimp only; omega), ?_⟩ -- b.length ≤ (1000000 : Nat)
              intro e_151
              intro s_152
              intro c_153
              intro o_154
              intro l_155
              intro n_156
              intro h97 -- e_151 = ofE (ansR b)
              intro h98 -- s_152 = of1 (ansR b)
              intro h99 -- c_153 = of2 (ansR b)
              intro h100 -- o_154 = of3 (ansR b)
              intro h101 -- l_155 = of4 (ansR b)
              intro h102 -- l_155.length = n_156
              intro h103 -- n_156 ≤ (8 : Nat)
              refine br_intro (fun c104 => ?_) (fun c104 => ?_) -- e_151 == (0 : Int)
              · -- yes
                simp at c104 -- e_151 = (0 : Int)
                have h105 : (List.take n_156 (List.drop (0 : Nat) l_155)).length ≤ (1000000 : Nat) := by
                  rw [List.length_take]; omega
                refine ⟨h105, ?_⟩
                intro e_164
                intro ys_165
                intro n_166
                intro h106 -- e_164 = rE s_152 c_153 o_154 (List.take n_156 (List.drop (0 : Nat) l_155))
                intro h107 -- ys_165 = rO s_152 c_153 o_154 (List.take n_156 (List.drop (0 : Nat) l_155))
                intro h108 -- ys_165.length = n_166
                refine br_intro (fun c109 => ?_) (fun c109 => ?_) -- bif e_164 != (0 : Int) then true else !{ data := (List.take n_166 (List.drop (0 : Nat) ys_165)).toArray : ByteArray }.data.toList == { data := b.toArray : ByteArray }.data.toList
                · -- yes
                  simp at c109 -- ¬e_164 = (0 : Int) ∨ ¬List.take n_166 ys_165 = b
                  -- k (AV.bool false) [] []
                  exact (backR h97 c104 h98 h99 h100 h101 h102 h106 h107 h108 c109).elim
                · -- no
                  simp at c109 -- e_164 = (0 : Int) ∧ List.take n_166 ys_165 = b
                  exact by exact hk -- k (AV.bool true) [] []
              · -- no
                simp at c104 -- ¬e_151 = (0 : Int)
                exact by exact hk -- k (AV.bool true) [] []
    · -- no
      simp at c5 -- ¬e_8 = (0 : Int)
      refine ⟨by first | omega | (dsimp only; omega), ?_⟩ -- l2.length ≤ (1000000 : Nat)
      intro e_170
      intro ys_171
      intro n_172
      intro h110 -- e_170 = rE s2 m t l2
      intro h111 -- ys_171 = rO s2 m t l2
      intro h112 -- ys_171.length = n_172
      refine br_intro (fun c113 => ?_) (fun c113 => ?_) -- e_170 == (0 : Int)
      · -- yes
        simp at c113 -- e_170 = (0 : Int)
        have h114 : (List.take n_172 (List.drop (0 : Nat) ys_171)).length ≤ (1000000 : Nat) := by
          have F := fwdR (by omega) h110 c113 h111 h112
          rw [List.length_take]; omega
        refine ⟨h114, ?_⟩
        intro e_176
        intro s_177
        intro c_178
        intro o_179
        intro l_180
        intro n_181
        intro h115 -- e_176 = ofE (ansR (List.take n_172 (List.drop (0 : Nat) ys_171)))
        intro h116 -- s_177 = of1 (ansR (List.take n_172 (List.drop (0 : Nat) ys_171)))
        intro h117 -- c_178 = of2 (ansR (List.take n_172 (List.drop (0 : Nat) ys_171)))
        intro h118 -- o_179 = of3 (ansR (List.take n_172 (List.drop (0 : Nat) ys_171)))
        intro h119 -- l_180 = of4 (ansR (List.take n_172 (List.drop (0 : Nat) ys_171)))
        intro h120 -- l_180.length = n_181
        intro h121 -- n_181 ≤ (8 : Nat)
        refine br_intro (fun c122 => ?_) (fun c122 => ?_) -- e_176 != (0 : Int)
        · -- yes
          simp at c122 -- ¬e_176 = (0 : Int)
          refine ⟨by with_reducible rfl, ?_⟩ -- true = true
          intro n189
          intro q189 -- n189 = (↑n_172 : Int)
          -- k (AV.bool false) [] []
          exact (fwd_e (fwdR (by omega) h110 c113 h111 h112).2 h115 c122).elim
        · -- no
          simp at c122 -- e_176 = (0 : Int)
          intro r_190
          intro h123 -- r_190 = true ↔ s_177 = s2 ∧ c_178 = m ∧ o_179 = t ∧ List.take n_181 (List.drop (0 : Nat) l_180) = l2
          intro n192
          intro q192 -- n192 = (↑n_172 : Int)
          refine br_intro (fun c124 => ?_) (fun c124 => ?_) -- bif bif false then true else !r_190 then true else decide (n192 > (512 : Int))
          · -- yes
            simp at c124 -- r_190 = false ∨ (512 : Int) < n192
            -- k (AV.bool false) [] []
            exact (fwd_r (fwdR (by omega) h110 c113 h111 h112) h116 h117 h118 h119 h120 h123 q192 c124).elim
          · -- no
            simp at c124 -- r_190 = true ∧ n192 ≤ (512 : Int)
            refine ⟨by first | omega | (dsimp only; omega), ?_⟩ -- b.length ≤ (1000000 : Nat)
            intro e_194
            intro s_195
            intro c_196
            intro o_197
            intro l_198
            intro n_199
            intro h125 -- e_194 = ofE (ansC b)
            intro h126 -- s_195 = of1 (ansC b)
            intro h127 -- c_196 = of2 (ansC b)
            intro h128 -- o_197 = of3 (ansC b)
            intro h129 -- l_198 = of4 (ansC b)
            intro h130 -- l_198.length = n_199
            intro h131 -- n_199 ≤ (8 : Nat)
            refine br_intro (fun c132 => ?_) (fun c132 => ?_) -- e_194 == (0 : Int)
            · -- yes
              simp at c132 -- e_194 = (0 : Int)
              have h133 : (List.take n_199 (List.drop (0 : Nat) l_198)).length ≤ (1000000 : Nat) := by
                rw [List.length_take]; omega
              refine ⟨h133, ?_⟩
              intro e_207
              intro ys_208
              intro n_209
              intro h134 -- e_207 = cE s_195 c_196 o_197 (List.take n_199 (List.drop (0 : Nat) l_198))
              intro h135 -- ys_208 = cO s_195 c_196 o_197 (List.take n_199 (List.drop (0 : Nat) l_198))
              intro h136 -- ys_208.length = n_209
              refine br_intro (fun c137 => ?_) (fun c137 => ?_) -- bif e_207 != (0 : Int) then true else !{ data := (List.take n_209 (List.drop (0 : Nat) ys_208)).toArray : ByteArray }.data.toList == { data := b.toArray : ByteArray }.data.toList
              · -- yes
                simp at c137 -- ¬e_207 = (0 : Int) ∨ ¬List.take n_209 ys_208 = b
                -- k (AV.bool false) [] []
                exact (backC h125 c132 h126 h127 h128 h129 h130 h134 h135 h136 c137).elim
              · -- no
                simp at c137 -- e_207 = (0 : Int) ∧ List.take n_209 ys_208 = b
                refine ⟨by first | omega | (dsimp only; omega), ?_⟩ -- b.length ≤ (1000000 : Nat)
                intro e_213
                intro s_214
                intro c_215
                intro o_216
                intro l_217
                intro n_218
                intro h138 -- e_213 = ofE (ansR b)
                intro h139 -- s_214 = of1 (ansR b)
                intro h140 -- c_215 = of2 (ansR b)
                intro h141 -- o_216 = of3 (ansR b)
                intro h142 -- l_217 = of4 (ansR b)
                intro h143 -- l_217.length = n_218
                intro h144 -- n_218 ≤ (8 : Nat)
                refine br_intro (fun c145 => ?_) (fun c145 => ?_) -- e_213 == (0 : Int)
                · -- yes
                  simp at c145 -- e_213 = (0 : Int)
                  have h146 : (List.take n_218 (List.drop (0 : Nat) l_217)).length ≤ (1000000 : Nat) := by
                    rw [List.length_take]; omega
                  refine ⟨h146, ?_⟩
                  intro e_226
                  intro ys_227
                  intro n_228
                  intro h147 -- e_226 = rE s_214 c_215 o_216 (List.take n_218 (List.drop (0 : Nat) l_217))
                  intro h148 -- ys_227 = rO s_214 c_215 o_216 (List.take n_218 (List.drop (0 : Nat) l_217))
                  intro h149 -- ys_227.length = n_228
                  refine br_intro (fun c150 => ?_) (fun c150 => ?_) -- bif e_226 != (0 : Int) then true else !{ data := (List.take n_228 (List.drop (0 : Nat) ys_227)).toArray : ByteArray }.data.toList == { data := b.toArray : ByteArray }.data.toList
                  · -- yes
                    simp at c150 -- ¬e_226 = (0 : Int) ∨ ¬List.take n_228 ys_227 = b
                    -- k (AV.bool false) [] []
                    exact (backR h138 c145 h139 h140 h141 h142 h143 h147 h148 h149 c150).elim
                  · -- no
                    simp at c150 -- e_226 = (0 : Int) ∧ List.take n_228 ys_227 = b
                    exact by exact hk -- k (AV.bool true) [] []
                · -- no
                  simp at c145 -- ¬e_213 = (0 : Int)
                  exact by exact hk -- k (AV.bool true) [] []
            · -- no
              simp at c132 -- ¬e_194 = (0 : Int)
              refine ⟨by first | omega | (dsimp only; omega), ?_⟩ -- b.length ≤ (1000000 : Nat)
              intro e_232
              intro s_233
              intro c_234
              intro o_235
              intro l_236
              intro n_237
              intro h151 -- e_232 = ofE (ansR b)
              intro h152 -- s_233 = of1 (ansR b)
              intro h153 -- c_234 = of2 (ansR b)
              intro h154 -- o_235 = of3 (ansR b)
              intro h155 -- l_236 = of4 (ansR b)
              intro h156 -- l_236.length = n_237
              intro h157 -- n_237 ≤ (8 : Nat)
              refine br_intro (fun c158 => ?_) (fun c158 => ?_) -- e_232 == (0 : Int)
              · -- yes
                simp at c158 -- e_232 = (0 : Int)
                have h159 : (List.take n_237 (List.drop (0 : Nat) l_236)).length ≤ (1000000 : Nat) := by
                  rw [List.length_take]; omega
                refine ⟨h159, ?_⟩
                intro e_245
                intro ys_246
                intro n_247
                intro h160 -- e_245 = rE s_233 c_234 o_235 (List.take n_237 (List.drop (0 : Nat) l_236))
                intro h161 -- ys_246 = rO s_233 c_234 o_235 (List.take n_237 (List.drop (0 : Nat) l_236))
                intro h162 -- ys_246.length = n_247
                refine br_intro (fun c163 => ?_) (fun c163 => ?_) -- bif e_245 != (0 : Int) then true else !{ data := (List.take n_247 (List.drop (0 : Nat) ys_246)).toArray : ByteArray }.data.toList == { data := b.toArray : ByteArray }.data.toList
                · -- yes
                  simp at c163 -- ¬e_245 = (0 : Int) ∨ ¬List.take n_247 ys_246 = b
                  -- k (AV.bool false) [] []
                  exact (backR h151 c158 h152 h153 h154 h155 h156 h160 h161 h162 c163).elim
                · -- no
                  simp at c163 -- e_245 = (0 : Int) ∧ List.take n_247 ys_246 = b
                  exact by exact hk -- k (AV.bool true) [] []
              · -- no
                simp at c158 -- ¬e_232 = (0 : Int)
                exact by exact hk -- k (AV.bool true) [] []
      · -- no
        simp at c113 -- ¬e_170 = (0 : Int)
        refine ⟨by first | omega | (dsimp only; omega), ?_⟩ -- b.length ≤ (1000000 : Nat)
        intro e_251
        intro s_252
        intro c_253
        intro o_254
        intro l_255
        intro n_256
        intro h164 -- e_251 = ofE (ansC b)
        intro h165 -- s_252 = of1 (ansC b)
        intro h166 -- c_253 = of2 (ansC b)
        intro h167 -- o_254 = of3 (ansC b)
        intro h168 -- l_255 = of4 (ansC b)
        intro h169 -- l_255.length = n_256
        intro h170 -- n_256 ≤ (8 : Nat)
        refine br_intro (fun c171 => ?_) (fun c171 => ?_) -- e_251 == (0 : Int)
        · -- yes
          simp at c171 -- e_251 = (0 : Int)
          have h172 : (List.take n_256 (List.drop (0 : Nat) l_255)).length ≤ (1000000 : Nat) := by
            rw [List.length_take]; omega
          refine ⟨h172, ?_⟩
          intro e_264
          intro ys_265
          intro n_266
          intro h173 -- e_264 = cE s_252 c_253 o_254 (List.take n_256 (List.drop (0 : Nat) l_255))
          intro h174 -- ys_265 = cO s_252 c_253 o_254 (List.take n_256 (List.drop (0 : Nat) l_255))
          intro h175 -- ys_265.length = n_266
          refine br_intro (fun c176 => ?_) (fun c176 => ?_) -- bif e_264 != (0 : Int) then true else !{ data := (List.take n_266 (List.drop (0 : Nat) ys_265)).toArray : ByteArray }.data.toList == { data := b.toArray : ByteArray }.data.toList
          · -- yes
            simp at c176 -- ¬e_264 = (0 : Int) ∨ ¬List.take n_266 ys_265 = b
            -- k (AV.bool false) [] []
            exact (backC h164 c171 h165 h166 h167 h168 h169 h173 h174 h175 c176).elim
          · -- no
            simp at c176 -- e_264 = (0 : Int) ∧ List.take n_266 ys_265 = b
            refine ⟨by first | omega | (dsimp only; omega), ?_⟩ -- b.length ≤ (1000000 : Nat)
            intro e_270
            intro s_271
            intro c_272
            intro o_273
            intro l_274
            intro n_275
            intro h177 -- e_270 = ofE (ansR b)
            intro h178 -- s_271 = of1 (ansR b)
            intro h179 -- c_272 = of2 (ansR b)
            intro h180 -- o_273 = of3 (ansR b)
            intro h181 -- l_274 = of4 (ansR b)
            intro h182 -- l_274.length = n_275
            intro h183 -- n_275 ≤ (8 : Nat)
            refine br_intro (fun c184 => ?_) (fun c184 => ?_) -- e_270 == (0 : Int)
            · -- yes
              simp at c184 -- e_270 = (0 : Int)
              have h185 : (List.take n_275 (List.drop (0 : Nat) l_274)).length ≤ (1000000 : Nat) := by
                rw [List.length_take]; omega
              refine ⟨h185, ?_⟩
              intro e_283
              intro ys_284
              intro n_285
              intro h186 -- e_283 = rE s_271 c_272 o_273 (List.take n_275 (List.drop (0 : Nat) l_274))
              intro h187 -- ys_284 = rO s_271 c_272 o_273 (List.take n_275 (List.drop (0 : Nat) l_274))
              intro h188 -- ys_284.length = n_285
              refine br_intro (fun c189 => ?_) (fun c189 => ?_) -- bif e_283 != (0 : Int) then true else !{ data := (List.take n_285 (List.drop (0 : Nat) ys_284)).toArray : ByteArray }.data.toList == { data := b.toArray : ByteArray }.data.toList
              · -- yes
                simp at c189 -- ¬e_283 = (0 : Int) ∨ ¬List.take n_285 ys_284 = b
                -- k (AV.bool false) [] []
                exact (backR h177 c184 h178 h179 h180 h181 h182 h186 h187 h188 c189).elim
              · -- no
                simp at c189 -- e_283 = (0 : Int) ∧ List.take n_285 ys_284 = b
                exact by exact hk -- k (AV.bool true) [] []
            · -- no
              simp at c184 -- ¬e_270 = (0 : Int)
              exact by exact hk -- k (AV.bool true) [] []
        · -- no
          simp at c171 -- ¬e_251 = (0 : Int)
          refine ⟨by first | omega | (dsimp only; omega), ?_⟩ -- b.length ≤ (1000000 : Nat)
          intro e_289
          intro s_290
          intro c_291
          intro o_292
          intro l_293
          intro n_294
          intro h190 -- e_289 = ofE (ansR b)
          intro h191 -- s_290 = of1 (ansR b)
          intro h192 -- c_291 = of2 (ansR b)
          intro h193 -- o_292 = of3 (ansR b)
          intro h194 -- l_293 = of4 (ansR b)
          intro h195 -- l_293.length = n_294
          intro h196 -- n_294 ≤ (8 : Nat)
          refine br_intro (fun c197 => ?_) (fun c197 => ?_) -- e_289 == (0 : Int)
          · -- yes
            simp at c197 -- e_289 = (0 : Int)
            have h198 : (List.take n_294 (List.drop (0 : Nat) l_293)).length ≤ (1000000 : Nat) := by
              rw [List.length_take]; omega
            refine ⟨h198, ?_⟩
            intro e_302
            intro ys_303
            intro n_304
            intro h199 -- e_302 = rE s_290 c_291 o_292 (List.take n_294 (List.drop (0 : Nat) l_293))
            intro h200 -- ys_303 = rO s_290 c_291 o_292 (List.take n_294 (List.drop (0 : Nat) l_293))
            intro h201 -- ys_303.length = n_304
            refine br_intro (fun c202 => ?_) (fun c202 => ?_) -- bif e_302 != (0 : Int) then true else !{ data := (List.take n_304 (List.drop (0 : Nat) ys_303)).toArray : ByteArray }.data.toList == { data := b.toArray : ByteArray }.data.toList
            · -- yes
              simp at c202 -- ¬e_302 = (0 : Int) ∨ ¬List.take n_304 ys_303 = b
              -- k (AV.bool false) [] []
              exact (backR h190 c197 h191 h192 h193 h194 h195 h199 h200 h201 c202).elim
            · -- no
              simp at c202 -- e_302 = (0 : Int) ∧ List.take n_304 ys_303 = b
              exact by exact hk -- k (AV.bool true) [] []
          · -- no
            simp at c197 -- ¬e_289 = (0 : Int)
            exact by exact hk -- k (AV.bool true) [] []

theorem linkBack_ok : Holds Try.prog 8 lawBodies := by
  refine fn_sound (env := mkEnv M5) (tab_ok M5_ok) Try.func8 Try.call8 fun args k h => ?_
  match args, h with
  | [.agg [.int .i64 s, .int .i64 c, .int .i64 o, .sl 1 l], .agg [.int .i64 s2, .int .u8 m, .int .i64 t, .sl 1 l2], .sl 0 b], h => exact ⟨by kernel_rfl, fun _ _ => none, fun _ _ => none, .cast (by kernel_rfl) (linkBack_vc s h.1.1 h.1.2 c h.2.1.1 h.2.1.2 o h.2.2.1.1 h.2.2.1.2 l s2 h.2.2.2.1.1 h.2.2.2.1.2 m h.2.2.2.2.1.1 h.2.2.2.2.1.2 t h.2.2.2.2.2.1.1 h.2.2.2.2.2.1.2 l2 b k h.2.2.2.2.2.2)⟩
end Go.Proofs.Ytpkfadgennejnaa
namespace Go.Proofs.Ytpkfadgennejnaa
open Go.ChangeShapes Go.WideShapes Go.ChangeAt Go.RowKit Go.Eng
set_option linter.unusedVariables false

theorem ownB : ownKnob Try.prog.godebug = none := by kernel_rfl
theorem laidB : laidOutB Try.prog = true := by kernel_rfl

set_option maxHeartbeats 800000 in
set_option maxRecDepth 100000 in
theorem linkBodiesLifted (os : Os) (started : os.Started) (H : Type) (enc : TypeId × Value → H) :
    ReturnsInHanded {} Try.checked os 7 .any (Rows.linkBodiesSpec.pre6 enc Try.prog Try.f7 Rows.linkBodiesRow.domain false) (Rows.linkBodiesSpec.post enc Try.prog Try.f7 false true false false) := by
  refine returnsInHanded_of_change (C := Try.checked) ownB started (by kernel_rfl) Try.func7
    (ChangeSpec.witness6 (enc := enc) (C := Try.checked) false ⟨#[], #[.agg #[.int .i64 0, .int .i64 0, .int .i64 0, .slice none 0 0], .agg #[.int .i64 0, .int .u8 0, .int .i64 0, .slice none 0 0], .slice none 0 0], []⟩ 8 (by kernel_rfl) (by kernel_rfl) (by kernel_rfl) (by kernel_rfl)) ?_
  intro W base args ds gs before hval0 hW hcnd _
  have hval : ∀ (j : Nat) t v, Try.f7.params[j]? = some t → args[j]? = some v → Value.okWide Try.prog W .any base t v := hval0
  have hW' := hW
  obtain ⟨p, q, hA0, hV, rfl, hfz, hnd⟩ := hW
  have hA : DataW.TrodAll enc Try.prog W 0 (fun _ => true) true Try.f7.params.toList args.toList ds p := hA0
  rw [Try.params7] at hA hval
  obtain ⟨v0, vs0, d0, ds0, p0, q0, hargs, rfl, rfl, h0, r0⟩ := trodAll_cons hA
  obtain ⟨v1, vs1, d1, ds1, p1, q1, rfl, rfl, rfl, h1, r1⟩ := trodAll_cons r0
  obtain ⟨v2, vs2, d2, ds2, p2, q2, rfl, rfl, rfl, h2, r2⟩ := trodAll_cons r1
  obtain ⟨rfl, rfl, rfl⟩ := trodAll_nil r2
  obtain rfl : args = #[v0, v1, v2] := by cases args; simp_all
  obtain ⟨rfl, rfl⟩ := trodVars_none hV
  have k0 := h0
  have lt0 : ∀ x ∈ p0, x.block < W.heap.size := by obtain ⟨m, hm⟩ := k0; exact DataW.trod_lt m _ _ _ hm
  obtain ⟨fuel0, hf0⟩ := h0
  obtain ⟨cs0, rfl, hsz0, hcs0⟩ := open_scal Try.underlying55 (by kernel_rfl) (by kernel_rfl) (hval 0 55 v0 rfl rfl) hf0
  obtain ⟨c0_0, c0_1, c0_2, c0_3, rfl⟩ : ∃ b0 b1 b2 b3, cs0 = #[b0, b1, b2, b3] := by
    exact arr4 hsz0
  obtain ⟨n0_0, y0_0, hy0_0⟩ := hcs0 0 _ _ rfl rfl
  obtain ⟨a0_0, e0_0, -, w0_0⟩ := DataW.trod_int Try.underlying3 hy0_0
  obtain rfl : c0_0 = .int .i64 a0_0 := by simpa using e0_0
  obtain ⟨n0_1, y0_1, hy0_1⟩ := hcs0 1 _ _ rfl rfl
  obtain ⟨a0_1, e0_1, -, w0_1⟩ := DataW.trod_int Try.underlying3 hy0_1
  obtain rfl : c0_1 = .int .i64 a0_1 := by simpa using e0_1
  obtain ⟨n0_2, y0_2, hy0_2⟩ := hcs0 2 _ _ rfl rfl
  obtain ⟨a0_2, e0_2, -, w0_2⟩ := DataW.trod_int Try.underlying3 hy0_2
  obtain rfl : c0_2 = .int .i64 a0_2 := by simpa using e0_2
  obtain ⟨n0_3, y0_3, hy0_3⟩ := hcs0 3 _ _ rfl rfl
  obtain ⟨u0_3, xs0_3, e0_3, o0_3, w0_3, -⟩ := rep_slice (c := 1) (by decide) Try.underlying53 (by kernel_rfl) (cells_i64 Try.underlying3) hy0_3
  obtain rfl : c0_3 = u0_3 := by simpa using e0_3
  have k1 := h1
  have lt1 : ∀ x ∈ p1, x.block < W.heap.size := by obtain ⟨m, hm⟩ := k1; exact DataW.trod_lt m _ _ _ hm
  obtain ⟨fuel1, hf1⟩ := h1
  obtain ⟨cs1, rfl, hsz1, hcs1⟩ := open_scal Try.underlying58 (by kernel_rfl) (by kernel_rfl) (hval 1 58 v1 rfl rfl) hf1
  obtain ⟨c1_0, c1_1, c1_2, c1_3, rfl⟩ : ∃ b0 b1 b2 b3, cs1 = #[b0, b1, b2, b3] := by
    exact arr4 hsz1
  obtain ⟨n1_0, y1_0, hy1_0⟩ := hcs1 0 _ _ rfl rfl
  obtain ⟨a1_0, e1_0, -, w1_0⟩ := DataW.trod_int Try.underlying3 hy1_0
  obtain rfl : c1_0 = .int .i64 a1_0 := by simpa using e1_0
  obtain ⟨n1_1, y1_1, hy1_1⟩ := hcs1 1 _ _ rfl rfl
  obtain ⟨a1_1, e1_1, -, w1_1⟩ := DataW.trod_int Try.underlying5 hy1_1
  obtain rfl : c1_1 = .int .u8 a1_1 := by simpa using e1_1
  obtain ⟨n1_2, y1_2, hy1_2⟩ := hcs1 2 _ _ rfl rfl
  obtain ⟨a1_2, e1_2, -, w1_2⟩ := DataW.trod_int Try.underlying3 hy1_2
  obtain rfl : c1_2 = .int .i64 a1_2 := by simpa using e1_2
  obtain ⟨n1_3, y1_3, hy1_3⟩ := hcs1 3 _ _ rfl rfl
  obtain ⟨u1_3, xs1_3, e1_3, o1_3, w1_3, -⟩ := rep_slice (c := 1) (by decide) Try.underlying56 (by kernel_rfl) (cells_i64 Try.underlying2) hy1_3
  obtain rfl : c1_3 = u1_3 := by simpa using e1_3
  have k2 := h2
  have lt2 : ∀ x ∈ p2, x.block < W.heap.size := by obtain ⟨m, hm⟩ := k2; exact DataW.trod_lt m _ _ _ hm
  obtain ⟨xs2, w2, z2⟩ : ∃ xs : List (ty 0), Rep W (· < W.heap.size) noIds v2 (.sl 0 xs) ∧ DSz Z0 d2 xs := by
    obtain ⟨fuel, hf⟩ := h2
    exact rep_in (c := 0) (by decide) Try.underlying32 (by kernel_rfl) (cells_u8 Try.underlying5) (hval 2 32 v2 rfl rfl) hf
  clear hA0 hval0
  have hk0_0 : kwf .i64 a0_0 := by simpa [Lit.wf, kwf] using w0_0
  have hk0_1 : kwf .i64 a0_1 := by simpa [Lit.wf, kwf] using w0_1
  have hk0_2 : kwf .i64 a0_2 := by simpa [Lit.wf, kwf] using w0_2
  have hk1_0 : kwf .i64 a1_0 := by simpa [Lit.wf, kwf] using w1_0
  have hk1_1 : kwf .u8 a1_1 := by simpa [Lit.wf, kwf] using w1_1
  have hk1_2 : kwf .i64 a1_2 := by simpa [Lit.wf, kwf] using w1_2
  refine (calls_of_holds linkBodies_ok Try.call7 (w := W) (vals := #[.agg #[.int .i64 a0_0, .int .i64 a0_1, .int .i64 a0_2, c0_3], .agg #[.int .i64 a1_0, .int .u8 a1_1, .int .i64 a1_2, c1_3], v2]) (args := [.agg [.int .i64 a0_0, .int .i64 a0_1, .int .i64 a0_2, .sl 1 xs0_3], .agg [.int .i64 a1_0, .int .u8 a1_1, .int .i64 a1_2, .sl 1 xs1_3], .sl 0 xs2]) rfl (fun j v hj => ?_) ⟨hk0_0, hk0_1, hk0_2, hk1_0, hk1_1, hk1_2, rfl⟩).mono fun e W' ⟨he, bel⟩ => ?_
  · rcases j with _ | _ | _ | j
    · simp at hj; subst hj; refine .agg rfl (fun j v h => ?_) (fun j v h => ?_) <;> rcases j with _ | _ | _ | _ | j <;> simp at h <;> subst h <;> first | rfl | exact .bool | exact .int (by assumption) | assumption
    · simp at hj; subst hj; refine .agg rfl (fun j v h => ?_) (fun j v h => ?_) <;> rcases j with _ | _ | _ | _ | j <;> simp at h <;> subst h <;> first | rfl | exact .bool | exact .int (by assumption) | assumption
    · simp at hj; subst hj; exact w2
    · simp at hj
  subst he
  exact ⟨_, rfl, _, _, _, [], _, [], hW', trodAll_mk1 (shut_bool Try.underlying4 _), (trodAll_cons_mk (Below.trod laidB (by kernel_rfl) (of_decide_eq_true (by kernel_rfl)) k0 bel lt0) (trodAll_cons_mk (Below.trod laidB (by kernel_rfl) (of_decide_eq_true (by kernel_rfl)) k1 bel lt1) (trodAll_cons_mk (Below.trod laidB (by kernel_rfl) (of_decide_eq_true (by kernel_rfl)) k2 bel lt2) trodAll_mk0))), rfl, bel.frame _, fun h => by cases h⟩

theorem linkBodies_said : Rows.LinkBodiesSaid :=
  OpenClaim.holds_of_wide 7 Try.f7 rfl rfl rfl rfl rfl rfl rfl ⟨rfl, rfl, rfl, rfl, rfl⟩ rfl rfl rfl rfl rfl (by kernel_rfl) Try.func7 (by kernel_rfl)
    (of_decide_eq_true (by kernel_rfl)) (by unfold Func.isWrapper; first | (rw [if_pos (by decide +kernel)]; kernel_rfl) | (rw [if_neg (by decide +kernel)]; exact ⟨rfl, rfl⟩))
    (fun os started H enc _ => linkBodiesLifted os started H enc)
#print axioms linkBodies_said
end Go.Proofs.Ytpkfadgennejnaa

namespace Go.Proofs.Ytpkfadgennejnaa
open Go.ChangeShapes Go.WideShapes Go.ChangeAt Go.RowKit Go.Eng
set_option linter.unusedVariables false

theorem ownK : ownKnob Try.prog.godebug = none := by kernel_rfl
theorem laidK : laidOutB Try.prog = true := by kernel_rfl

set_option maxHeartbeats 800000 in
set_option maxRecDepth 100000 in
theorem linkBackLifted (os : Os) (started : os.Started) (H : Type) (enc : TypeId × Value → H) :
    ReturnsInHanded {} Try.checked os 8 .any (Rows.linkBackSpec.pre6 enc Try.prog Try.f8 Rows.linkBackRow.domain false) (Rows.linkBackSpec.post enc Try.prog Try.f8 false true false false) := by
  refine returnsInHanded_of_change (C := Try.checked) ownK started (by kernel_rfl) Try.func8
    (ChangeSpec.witness6 (enc := enc) (C := Try.checked) false ⟨#[], #[.agg #[.int .i64 0, .int .i64 0, .int .i64 0, .slice none 0 0], .agg #[.int .i64 0, .int .u8 0, .int .i64 0, .slice none 0 0], .slice none 0 0], []⟩ 8 (by kernel_rfl) (by kernel_rfl) (by kernel_rfl) (by kernel_rfl)) ?_
  intro W base args ds gs before hval0 hW hcnd _
  have hval : ∀ (j : Nat) t v, Try.f8.params[j]? = some t → args[j]? = some v → Value.okWide Try.prog W .any base t v := hval0
  have hW' := hW
  obtain ⟨p, q, hA0, hV, rfl, hfz, hnd⟩ := hW
  have hA : DataW.TrodAll enc Try.prog W 0 (fun _ => true) true Try.f8.params.toList args.toList ds p := hA0
  rw [Try.params8] at hA hval
  obtain ⟨v0, vs0, d0, ds0, p0, q0, hargs, rfl, rfl, h0, r0⟩ := trodAll_cons hA
  obtain ⟨v1, vs1, d1, ds1, p1, q1, rfl, rfl, rfl, h1, r1⟩ := trodAll_cons r0
  obtain ⟨v2, vs2, d2, ds2, p2, q2, rfl, rfl, rfl, h2, r2⟩ := trodAll_cons r1
  obtain ⟨rfl, rfl, rfl⟩ := trodAll_nil r2
  obtain rfl : args = #[v0, v1, v2] := by cases args; simp_all
  obtain ⟨rfl, rfl⟩ := trodVars_none hV
  have k0 := h0
  have lt0 : ∀ x ∈ p0, x.block < W.heap.size := by obtain ⟨m, hm⟩ := k0; exact DataW.trod_lt m _ _ _ hm
  obtain ⟨fuel0, hf0⟩ := h0
  obtain ⟨cs0, rfl, hsz0, hcs0⟩ := open_scal Try.underlying55 (by kernel_rfl) (by kernel_rfl) (hval 0 55 v0 rfl rfl) hf0
  obtain ⟨c0_0, c0_1, c0_2, c0_3, rfl⟩ : ∃ b0 b1 b2 b3, cs0 = #[b0, b1, b2, b3] := by
    exact arr4 hsz0
  obtain ⟨n0_0, y0_0, hy0_0⟩ := hcs0 0 _ _ rfl rfl
  obtain ⟨a0_0, e0_0, -, w0_0⟩ := DataW.trod_int Try.underlying3 hy0_0
  obtain rfl : c0_0 = .int .i64 a0_0 := by simpa using e0_0
  obtain ⟨n0_1, y0_1, hy0_1⟩ := hcs0 1 _ _ rfl rfl
  obtain ⟨a0_1, e0_1, -, w0_1⟩ := DataW.trod_int Try.underlying3 hy0_1
  obtain rfl : c0_1 = .int .i64 a0_1 := by simpa using e0_1
  obtain ⟨n0_2, y0_2, hy0_2⟩ := hcs0 2 _ _ rfl rfl
  obtain ⟨a0_2, e0_2, -, w0_2⟩ := DataW.trod_int Try.underlying3 hy0_2
  obtain rfl : c0_2 = .int .i64 a0_2 := by simpa using e0_2
  obtain ⟨n0_3, y0_3, hy0_3⟩ := hcs0 3 _ _ rfl rfl
  obtain ⟨u0_3, xs0_3, e0_3, o0_3, w0_3, -⟩ := rep_slice (c := 1) (by decide) Try.underlying53 (by kernel_rfl) (cells_i64 Try.underlying3) hy0_3
  obtain rfl : c0_3 = u0_3 := by simpa using e0_3
  have k1 := h1
  have lt1 : ∀ x ∈ p1, x.block < W.heap.size := by obtain ⟨m, hm⟩ := k1; exact DataW.trod_lt m _ _ _ hm
  obtain ⟨fuel1, hf1⟩ := h1
  obtain ⟨cs1, rfl, hsz1, hcs1⟩ := open_scal Try.underlying58 (by kernel_rfl) (by kernel_rfl) (hval 1 58 v1 rfl rfl) hf1
  obtain ⟨c1_0, c1_1, c1_2, c1_3, rfl⟩ : ∃ b0 b1 b2 b3, cs1 = #[b0, b1, b2, b3] := by
    exact arr4 hsz1
  obtain ⟨n1_0, y1_0, hy1_0⟩ := hcs1 0 _ _ rfl rfl
  obtain ⟨a1_0, e1_0, -, w1_0⟩ := DataW.trod_int Try.underlying3 hy1_0
  obtain rfl : c1_0 = .int .i64 a1_0 := by simpa using e1_0
  obtain ⟨n1_1, y1_1, hy1_1⟩ := hcs1 1 _ _ rfl rfl
  obtain ⟨a1_1, e1_1, -, w1_1⟩ := DataW.trod_int Try.underlying5 hy1_1
  obtain rfl : c1_1 = .int .u8 a1_1 := by simpa using e1_1
  obtain ⟨n1_2, y1_2, hy1_2⟩ := hcs1 2 _ _ rfl rfl
  obtain ⟨a1_2, e1_2, -, w1_2⟩ := DataW.trod_int Try.underlying3 hy1_2
  obtain rfl : c1_2 = .int .i64 a1_2 := by simpa using e1_2
  obtain ⟨n1_3, y1_3, hy1_3⟩ := hcs1 3 _ _ rfl rfl
  obtain ⟨u1_3, xs1_3, e1_3, o1_3, w1_3, -⟩ := rep_slice (c := 1) (by decide) Try.underlying56 (by kernel_rfl) (cells_i64 Try.underlying2) hy1_3
  obtain rfl : c1_3 = u1_3 := by simpa using e1_3
  have k2 := h2
  have lt2 : ∀ x ∈ p2, x.block < W.heap.size := by obtain ⟨m, hm⟩ := k2; exact DataW.trod_lt m _ _ _ hm
  obtain ⟨xs2, w2, z2⟩ : ∃ xs : List (ty 0), Rep W (· < W.heap.size) noIds v2 (.sl 0 xs) ∧ DSz Z0 d2 xs := by
    obtain ⟨fuel, hf⟩ := h2
    exact rep_in (c := 0) (by decide) Try.underlying32 (by kernel_rfl) (cells_u8 Try.underlying5) (hval 2 32 v2 rfl rfl) hf
  clear hA0 hval0
  have hk0_0 : kwf .i64 a0_0 := by simpa [Lit.wf, kwf] using w0_0
  have hk0_1 : kwf .i64 a0_1 := by simpa [Lit.wf, kwf] using w0_1
  have hk0_2 : kwf .i64 a0_2 := by simpa [Lit.wf, kwf] using w0_2
  have hk1_0 : kwf .i64 a1_0 := by simpa [Lit.wf, kwf] using w1_0
  have hk1_1 : kwf .u8 a1_1 := by simpa [Lit.wf, kwf] using w1_1
  have hk1_2 : kwf .i64 a1_2 := by simpa [Lit.wf, kwf] using w1_2
  refine (calls_of_holds linkBack_ok Try.call8 (w := W) (vals := #[.agg #[.int .i64 a0_0, .int .i64 a0_1, .int .i64 a0_2, c0_3], .agg #[.int .i64 a1_0, .int .u8 a1_1, .int .i64 a1_2, c1_3], v2]) (args := [.agg [.int .i64 a0_0, .int .i64 a0_1, .int .i64 a0_2, .sl 1 xs0_3], .agg [.int .i64 a1_0, .int .u8 a1_1, .int .i64 a1_2, .sl 1 xs1_3], .sl 0 xs2]) rfl (fun j v hj => ?_) ⟨hk0_0, hk0_1, hk0_2, hk1_0, hk1_1, hk1_2, rfl⟩).mono fun e W' ⟨he, bel⟩ => ?_
  · rcases j with _ | _ | _ | j
    · simp at hj; subst hj; refine .agg rfl (fun j v h => ?_) (fun j v h => ?_) <;> rcases j with _ | _ | _ | _ | j <;> simp at h <;> subst h <;> first | rfl | exact .bool | exact .int (by assumption) | assumption
    · simp at hj; subst hj; refine .agg rfl (fun j v h => ?_) (fun j v h => ?_) <;> rcases j with _ | _ | _ | _ | j <;> simp at h <;> subst h <;> first | rfl | exact .bool | exact .int (by assumption) | assumption
    · simp at hj; subst hj; exact w2
    · simp at hj
  subst he
  exact ⟨_, rfl, _, _, _, [], _, [], hW', trodAll_mk1 (shut_bool Try.underlying4 _), (trodAll_cons_mk (Below.trod laidK (by kernel_rfl) (of_decide_eq_true (by kernel_rfl)) k0 bel lt0) (trodAll_cons_mk (Below.trod laidK (by kernel_rfl) (of_decide_eq_true (by kernel_rfl)) k1 bel lt1) (trodAll_cons_mk (Below.trod laidK (by kernel_rfl) (of_decide_eq_true (by kernel_rfl)) k2 bel lt2) trodAll_mk0))), rfl, bel.frame _, fun h => by cases h⟩

theorem linkBack_said : Rows.LinkBackSaid :=
  OpenClaim.holds_of_wide 8 Try.f8 rfl rfl rfl rfl rfl rfl rfl ⟨rfl, rfl, rfl, rfl, rfl⟩ rfl rfl rfl rfl rfl (by kernel_rfl) Try.func8 (by kernel_rfl)
    (of_decide_eq_true (by kernel_rfl)) (by unfold Func.isWrapper; first | (rw [if_pos (by decide +kernel)]; kernel_rfl) | (rw [if_neg (by decide +kernel)]; exact ⟨rfl, rfl⟩))
    (fun os started H enc _ => linkBackLifted os started H enc)
#print axioms linkBack_said
end Go.Proofs.Ytpkfadgennejnaa


