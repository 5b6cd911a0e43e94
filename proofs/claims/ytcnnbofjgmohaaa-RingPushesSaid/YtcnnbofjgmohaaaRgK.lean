import Derived.Test.YtcnnbofjgmohaaaRgJ
namespace Go.Proofs.Ytcnnbofjgmohaaa
open Go Go.Eng Go.Rg Go.Proofs
set_option linter.unusedVariables false
set_option maxHeartbeats 2000000 in
theorem fnew_vc (n : Int) (n0 : (-9223372036854775808 : Int) ≤ n) (n1 : n ≤ (9223372036854775807 : Int)) (k : AV → List (Option Blk) → List Blk → Prop) (hk : ((1 : Int) ≤ n → n ≤ (1024 : Int) → k (AV.tup [AV.agg [AV.int IntKind.i64 n, AV.nilsl], AV.int IntKind.i64 (0 : Int)]) [] []) ∧ (n < (1 : Int) ∨ (1024 : Int) < n → k (AV.tup [AV.agg [AV.int IntKind.i64 (0 : Int), AV.nilsl], AV.int IntKind.i64 (2 : Int)]) [] [])) :
  br (bif decide (n < (1 : Int)) then true else decide (n > (1024 : Int)))
   ((k (AV.tup [AV.agg [AV.int IntKind.i64 (0 : Int), AV.nilsl], AV.int IntKind.i64 (2 : Int)]) [] []))
   ((k (AV.tup [AV.agg [AV.int IntKind.i64 n, AV.nilsl], AV.int IntKind.i64 (0 : Int)]) [] [])) := by
  refine br_intro (fun c1 => ?_) (fun c1 => ?_) -- bif decide (n < (1 : Int)) then true else decide (n > (1024 : Int))
  · -- yes
    simp at c1 -- n < (1 : Int) ∨ (1024 : Int) < n
    -- k (AV.tup [AV.agg [AV.int IntKind.i64 (0 : Int), AV.nilsl], AV.int IntKind.i64 (2 : Int)]) [] []
    exact hk.2 (by omega)
  · -- no
    simp at c1 -- (1 : Int) ≤ n ∧ n ≤ (1024 : Int)
    -- k (AV.tup [AV.agg [AV.int IntKind.i64 n, AV.nilsl], AV.int IntKind.i64 (0 : Int)]) [] []
    exact hk.1 (by omega) (by omega)

theorem fnew_ok : Holds Try.prog 12 fnewS := by
  refine fn_sound (env := mkEnv T0) (tab_ok T0_ok) Try.func12 Try.call12 fun args k h => ?_
  match args, h with
  | [.int .i64 n], h => exact ⟨by kernel_rfl, fun _ _ => none, fun _ _ => none, .cast (by kernel_rfl) (fnew_vc n h.1.1 h.1.2 k h.2)⟩
set_option maxHeartbeats 2000000 in
theorem flast_vc (n : Int) (L : List Int) (hn : (1 : Int) ≤ n ∧ n ≤ (1024 : Int)) (hL : L.length ≤ (2000 : Nat)) (k : AV → List (Option Blk) → List Blk → Prop) (hk : ∀ (ys : List Int), ys = lastL n.toNat L → ys.length ≤ (2000 : Nat) → k (AV.sl (1 : Nat) ys) [] []) :
  ∀ (n1 : Int),
  (n1 = (↑L.length : Int)) →
  ((-9223372036854775808 : Int) ≤ n1 ∧ n1 ≤ (9223372036854775807 : Int)) →
  ∀ (n4 : Int),
  (n4 = n) →
  ((-9223372036854775808 : Int) ≤ n4 ∧ n4 ≤ (9223372036854775807 : Int)) →
  ∀ (n7 : Int),
  (n7 = IntKind.i64.wrap (n1 - n4)) →
  ((-9223372036854775808 : Int) ≤ n7 ∧ n7 ≤ (9223372036854775807 : Int)) →
  ∀ (n10 : Int),
  (n10 = max (0 : Int) n7) →
  ((-9223372036854775808 : Int) ≤ n10 ∧ n10 ≤ (9223372036854775807 : Int)) →
  ((0 : Int) ≤ n10) ∧
  (n10 ≤ (↑L.length : Int)) ∧
  (k (AV.sl (1 : Nat) (List.drop n10.toNat L)) [] []) := by
  intro n1
  intro q1 -- n1 = (↑L.length : Int)
  intro ⟨l1, u1⟩ -- (-9223372036854775808 : Int) ≤ n1 ∧ n1 ≤ (9223372036854775807 : Int)
  intro n4
  intro q4 -- n4 = n
  intro ⟨l4, u4⟩ -- (-9223372036854775808 : Int) ≤ n4 ∧ n4 ≤ (9223372036854775807 : Int)
  intro n7
  intro q7 -- n7 = IntKind.i64.wrap (n1 - n4)
  rw [IntKind.wrap_i64] at q7
  intro ⟨l7, u7⟩ -- (-9223372036854775808 : Int) ≤ n7 ∧ n7 ≤ (9223372036854775807 : Int)
  intro n10
  intro q10 -- n10 = max (0 : Int) n7
  intro ⟨l10, u10⟩ -- (-9223372036854775808 : Int) ≤ n10 ∧ n10 ≤ (9223372036854775807 : Int)
  refine ⟨by first | omega | (dsimp only; omega), ?_⟩ -- (0 : Int) ≤ n10
  refine ⟨by first | omega | (dsimp only; omega), ?_⟩ -- n10 ≤ (↑L.length : Int)
  -- k (AV.sl (1 : Nat) (List.drop n10.toNat L)) [] []
  have e : n10.toNat = L.length - n.toNat := by omega
  rw [e]; exact hk _ rfl (by simp; omega)

theorem flast_ok : Holds Try.prog 16 flastS := by
  refine fn_sound (env := mkEnv T0) (tab_ok T0_ok) Try.func16 Try.call16 fun args k h => ?_
  match args, h with
  | [.agg [.int .i64 n, .sl 1 L]], h => exact ⟨by kernel_rfl, fun _ _ => none, fun _ _ => none, .cast (by kernel_rfl) (flast_vc n L h.1 h.2.1 k h.2.2)⟩
theorem F1_ok : TabOk Try.prog F1 := ⟨flast_ok, trivial⟩
set_option maxHeartbeats 2000000 in
theorem fat_vc (n : Int) (L : List Int) (i : Int) (hn : (1 : Int) ≤ n ∧ n ≤ (1024 : Int)) (hL : L.length ≤ (2000 : Nat)) (hi : (-9223372036854775808 : Int) ≤ i ∧ i ≤ (9223372036854775807 : Int)) (k : AV → List (Option Blk) → List Blk → Prop) (hk : ∀ (v e : Int), (v = if (0 : Int) ≤ i ∧ i < (↑(lastL n.toNat L).length : Int) then (lastL n.toNat L).getD ((lastL n.toNat L).length - (1 : Nat) - i.toNat) (0 : Int) else (0 : Int)) → (e = if (0 : Int) ≤ i ∧ i < (↑(lastL n.toNat L).length : Int) then (0 : Int) else (2 : Int)) → (-9223372036854775808 : Int) ≤ v ∧ v ≤ (9223372036854775807 : Int) → e = (0 : Int) ∨ e = (2 : Int) → k (AV.tup [AV.int IntKind.i64 v, AV.int IntKind.i64 e]) [] []) :
  (
   ((1 : Int) ≤ n) ∧
   (n ≤ (1024 : Int))) ∧
  (L.length ≤ (2000 : Nat)) ∧
  ∀ (ys_1 : List Int),
  (ys_1 = lastL n.toNat L) →
  (ys_1.length ≤ (2000 : Nat)) →
  ∀ (n4 : Int),
  (n4 = (↑ys_1.length : Int)) →
  br (bif decide (i < (0 : Int)) then true else decide (i ≥ n4))
   ((k (AV.tup [AV.int IntKind.i64 (0 : Int), AV.int IntKind.i64 (2 : Int)]) [] []))
   (∀ (n6 : Int),
    (n6 = (↑ys_1.length : Int)) →
    ((-9223372036854775808 : Int) ≤ n6 ∧ n6 ≤ (9223372036854775807 : Int)) →
    ∀ (n9 : Int),
    (n9 = IntKind.i64.wrap (n6 - (1 : Int))) →
    ((-9223372036854775808 : Int) ≤ n9 ∧ n9 ≤ (9223372036854775807 : Int)) →
    ∀ (n12 : Int),
    (n12 = IntKind.i64.wrap (n9 - i)) →
    ((-9223372036854775808 : Int) ≤ n12 ∧ n12 ≤ (9223372036854775807 : Int)) →
    ((0 : Int) ≤ n12) ∧
    (n12 < (↑ys_1.length : Int)) ∧
    ∀ (n15 : Int),
    (n15 = ys_1.getD n12.toNat (0 : Int)) →
    ((-9223372036854775808 : Int) ≤ n15 ∧ n15 ≤ (9223372036854775807 : Int)) →
    (k (AV.tup [AV.int IntKind.i64 n15, AV.int IntKind.i64 (0 : Int)]) [] [])) := by
  refine ⟨by first | omega | (dsimp only; omega), ?_⟩ -- (1 : Int) ≤ n ∧ n ≤ (1024 : Int)
  refine ⟨by assumption, ?_⟩ -- L.length ≤ (2000 : Nat)
  intro ys_1
  intro h1 -- ys_1 = lastL n.toNat L
  intro h2 -- ys_1.length ≤ (2000 : Nat)
  intro n4
  intro q4 -- n4 = (↑ys_1.length : Int)
  refine br_intro (fun c3 => ?_) (fun c3 => ?_) -- bif decide (i < (0 : Int)) then true else decide (i ≥ n4)
  · -- yes
    simp at c3 -- i < (0 : Int) ∨ n4 ≤ i
    -- k (AV.tup [AV.int IntKind.i64 (0 : Int), AV.int IntKind.i64 (2 : Int)]) [] []
    exact hk 0 2 (by rw [← h1, if_neg (by omega)]) (by rw [← h1, if_neg (by omega)]) (by omega) (.inr rfl)
  · -- no
    simp at c3 -- (0 : Int) ≤ i ∧ i < n4
    intro n6
    intro q6 -- n6 = (↑ys_1.length : Int)
    intro ⟨l6, u6⟩ -- (-9223372036854775808 : Int) ≤ n6 ∧ n6 ≤ (9223372036854775807 : Int)
    intro n9
    intro q9 -- n9 = IntKind.i64.wrap (n6 - (1 : Int))
    rw [IntKind.wrap_i64] at q9
    intro ⟨l9, u9⟩ -- (-9223372036854775808 : Int) ≤ n9 ∧ n9 ≤ (9223372036854775807 : Int)
    intro n12
    intro q12 -- n12 = IntKind.i64.wrap (n9 - i)
    rw [IntKind.wrap_i64] at q12
    intro ⟨l12, u12⟩ -- (-9223372036854775808 : Int) ≤ n12 ∧ n12 ≤ (9223372036854775807 : Int)
    refine ⟨by first | omega | (dsimp only; omega), ?_⟩ -- (0 : Int) ≤ n12
    refine ⟨by first | omega | (dsimp only; omega), ?_⟩ -- n12 < (↑ys_1.length : Int)
    intro n15
    intro q15 -- n15 = ys_1.getD n12.toNat (0 : Int)
    intro ⟨l15, u15⟩ -- (-9223372036854775808 : Int) ≤ n15 ∧ n15 ≤ (9223372036854775807 : Int)
    -- k (AV.tup [AV.int IntKind.i64 n15, AV.int IntKind.i64 (0 : Int)]) [] []
    exact hk n15 0 (by rw [← h1, if_pos (by omega), q15]; congr 1; omega) (by rw [← h1, if_pos (by omega)]) (by omega) (.inl rfl)

theorem fat_ok : Holds Try.prog 13 fatS := by
  refine fn_sound (env := mkEnv F1) (tab_ok F1_ok) Try.func13 Try.call13 fun args k h => ?_
  match args, h with
  | [.agg [.int .i64 n, .sl 1 L], .int .i64 i], h => exact ⟨by kernel_rfl, fun _ _ => none, fun _ _ => none, .cast (by kernel_rfl) (fat_vc n L i h.1 h.2.1 h.2.2.1 k h.2.2.2)⟩
set_option maxHeartbeats 2000000 in
theorem fsum_vc (n : Int) (L : List Int) (hn : (1 : Int) ≤ n ∧ n ≤ (1024 : Int)) (hL : L.length ≤ (2000 : Nat)) (k : AV → List (Option Blk) → List Blk → Prop) (hk : ∀ (s : Int), s = clampS (sumL (lastL n.toNat L)) → (-4611686018427387904 : Int) ≤ s ∧ s ≤ (4611686018427387904 : Int) → k (AV.int IntKind.i64 s) [] []) :
  (
   ((1 : Int) ≤ n) ∧
   (n ≤ (1024 : Int))) ∧
  (L.length ≤ (2000 : Nat)) ∧
  ∀ (ys_1 : List Int),
  (ys_1 = lastL n.toNat L) →
  (ys_1.length ≤ (2000 : Nat)) →
  (
   ∃ (v : Int × Int × Int × List Int),
   (ys_1 = v.snd.snd.snd) ∧
   ((0 : Int) = v.fst) ∧
   ((0 : Int) = v.snd.fst) ∧
   ((0 : Int) = v.snd.snd.fst) ∧
   (
    ((0 : Int) ≤ v.snd.snd.fst) ∧
    (v.snd.snd.fst ≤ (↑v.snd.snd.snd.length : Int))) ∧
   (v.snd.snd.snd = lastL n.toNat L) ∧
   (v.snd.snd.snd.length ≤ (2000 : Nat)) ∧
   (v.fst * (2147483648 : Int) + v.snd.fst = sumL (List.take v.snd.snd.fst.toNat v.snd.snd.snd)) ∧
   (
    ((-4294967296 : Int) * v.snd.snd.fst ≤ v.fst) ∧
    (v.fst ≤ (4294967296 : Int) * v.snd.snd.fst)) ∧
   ((-2147483648 : Int) * v.snd.snd.fst ≤ v.snd.fst) ∧
   (v.snd.fst ≤ (2147483648 : Int) * v.snd.snd.fst)) ∧
  ∀ (v_4 : Int × Int × Int × List Int),
  (((0 : Int) ≤ v_4.snd.snd.fst ∧ v_4.snd.snd.fst ≤ (↑v_4.snd.snd.snd.length : Int)) ∧ v_4.snd.snd.snd = lastL n.toNat L ∧ v_4.snd.snd.snd.length ≤ (2000 : Nat) ∧ v_4.fst * (2147483648 : Int) + v_4.snd.fst = sumL (List.take v_4.snd.snd.fst.toNat v_4.snd.snd.snd) ∧ ((-4294967296 : Int) * v_4.snd.snd.fst ≤ v_4.fst ∧ v_4.fst ≤ (4294967296 : Int) * v_4.snd.snd.fst) ∧ (-2147483648 : Int) * v_4.snd.snd.fst ≤ v_4.snd.fst ∧ v_4.snd.fst ≤ (2147483648 : Int) * v_4.snd.snd.fst) →
  ∀ (n6 : Int),
  (n6 = (↑v_4.snd.snd.snd.length : Int)) →
  ((-9223372036854775808 : Int) ≤ n6 ∧ n6 ≤ (9223372036854775807 : Int)) →
  br (decide (v_4.snd.snd.fst < n6))
   (((0 : Int) ≤ v_4.snd.snd.fst) ∧
    (v_4.snd.snd.fst < (↑v_4.snd.snd.snd.length : Int)) ∧
    ∀ (n9 : Int),
    (n9 = v_4.snd.snd.snd.getD v_4.snd.snd.fst.toNat (0 : Int)) →
    ((-9223372036854775808 : Int) ≤ n9 ∧ n9 ≤ (9223372036854775807 : Int)) →
    ((2147483648 : Int) ≠ (0 : Int)) ∧
    ∀ (n12 : Int),
    (n12 = IntKind.i64.wrap (n9.tdiv (2147483648 : Int))) →
    ((-9223372036854775808 : Int) ≤ n12 ∧ n12 ≤ (9223372036854775807 : Int)) →
    ∀ (n15 : Int),
    (n15 = IntKind.i64.wrap (v_4.fst + n12)) →
    ((-9223372036854775808 : Int) ≤ n15 ∧ n15 ≤ (9223372036854775807 : Int)) →
    ((0 : Int) ≤ v_4.snd.snd.fst) ∧
    (v_4.snd.snd.fst < (↑v_4.snd.snd.snd.length : Int)) ∧
    ∀ (n18 : Int),
    (n18 = v_4.snd.snd.snd.getD v_4.snd.snd.fst.toNat (0 : Int)) →
    ((-9223372036854775808 : Int) ≤ n18 ∧ n18 ≤ (9223372036854775807 : Int)) →
    ∀ (n21 : Int),
    (n21 = IntKind.i64.wrap (v_4.snd.fst + n18)) →
    ((-9223372036854775808 : Int) ≤ n21 ∧ n21 ≤ (9223372036854775807 : Int)) →
    ∀ (n24 : Int),
    (n24 = IntKind.i64.wrap (n12 * (2147483648 : Int))) →
    ((-9223372036854775808 : Int) ≤ n24 ∧ n24 ≤ (9223372036854775807 : Int)) →
    ∀ (n27 : Int),
    (n27 = IntKind.i64.wrap (n21 - n24)) →
    ((-9223372036854775808 : Int) ≤ n27 ∧ n27 ≤ (9223372036854775807 : Int)) →
    ∀ (n30 : Int),
    (n30 = IntKind.i64.wrap (v_4.snd.snd.fst + (1 : Int))) →
    ((-9223372036854775808 : Int) ≤ n30 ∧ n30 ≤ (9223372036854775807 : Int)) →
    ∃ (v' : Int × Int × Int × List Int),
    (v_4.snd.snd.snd = v'.snd.snd.snd) ∧
    (n15 = v'.fst) ∧
    (n27 = v'.snd.fst) ∧
    (n30 = v'.snd.snd.fst) ∧
    (
     (
      ((0 : Int) ≤ v'.snd.snd.fst) ∧
      (v'.snd.snd.fst ≤ (↑v'.snd.snd.snd.length : Int))) ∧
     (v'.snd.snd.snd = lastL n.toNat L) ∧
     (v'.snd.snd.snd.length ≤ (2000 : Nat)) ∧
     (v'.fst * (2147483648 : Int) + v'.snd.fst = sumL (List.take v'.snd.snd.fst.toNat v'.snd.snd.snd)) ∧
     (
      ((-4294967296 : Int) * v'.snd.snd.fst ≤ v'.fst) ∧
      (v'.fst ≤ (4294967296 : Int) * v'.snd.snd.fst)) ∧
     ((-2147483648 : Int) * v'.snd.snd.fst ≤ v'.snd.fst) ∧
     (v'.snd.fst ≤ (2147483648 : Int) * v'.snd.snd.fst)) ∧
    (((↑v'.snd.snd.snd.length : Int) - v'.snd.snd.fst).toNat < ((↑v_4.snd.snd.snd.length : Int) - v_4.snd.snd.fst).toNat))
   (((2147483648 : Int) ≠ (0 : Int)) ∧
    ∀ (n33 : Int),
    (n33 = IntKind.i64.wrap (v_4.snd.fst.tdiv (2147483648 : Int))) →
    ((-9223372036854775808 : Int) ≤ n33 ∧ n33 ≤ (9223372036854775807 : Int)) →
    ∀ (n36 : Int),
    (n36 = IntKind.i64.wrap (v_4.fst + n33)) →
    ((-9223372036854775808 : Int) ≤ n36 ∧ n36 ≤ (9223372036854775807 : Int)) →
    ((2147483648 : Int) ≠ (0 : Int)) ∧
    ∀ (n39 : Int),
    (n39 = v_4.snd.fst.tmod (2147483648 : Int)) →
    ((-9223372036854775808 : Int) ≤ n39 ∧ n39 ≤ (9223372036854775807 : Int)) →
    br (bif decide (n36 > (2147483648 : Int)) then true else bif n36 == (2147483648 : Int) then decide (n39 ≥ (0 : Int)) else false)
     ((k (AV.int IntKind.i64 (4611686018427387904 : Int)) [] []))
     (br (bif decide (n36 < (-2147483648 : Int)) then true else bif n36 == (-2147483648 : Int) then decide (n39 ≤ (0 : Int)) else false)
       ((k (AV.int IntKind.i64 (-4611686018427387904 : Int)) [] []))
       (∀ (n42 : Int),
        (n42 = IntKind.i64.wrap (n36 * (2147483648 : Int))) →
        ((-9223372036854775808 : Int) ≤ n42 ∧ n42 ≤ (9223372036854775807 : Int)) →
        ∀ (n45 : Int),
        (n45 = IntKind.i64.wrap (n42 + n39)) →
        ((-9223372036854775808 : Int) ≤ n45 ∧ n45 ≤ (9223372036854775807 : Int)) →
        (k (AV.int IntKind.i64 n45) [] [])))) := by
  refine ⟨by first | omega | (dsimp only; omega), ?_⟩ -- (1 : Int) ≤ n ∧ n ≤ (1024 : Int)
  refine ⟨by assumption, ?_⟩ -- L.length ≤ (2000 : Nat)
  intro ys_1
  intro h1 -- ys_1 = lastL n.toNat L
  intro h2 -- ys_1.length ≤ (2000 : Nat)
  refine ⟨?_, ?_⟩
  · -- left
    refine ⟨((0 : Int), (0 : Int), (0 : Int), ys_1), ?_⟩
    refine ⟨by first | with_reducible rfl | rfl, ?_⟩ -- ys_1 = ys_1
    refine ⟨by first | with_reducible rfl | rfl, ?_⟩ -- (0 : Int) = (0 : Int)
    refine ⟨by first | with_reducible rfl | rfl, ?_⟩ -- (0 : Int) = (0 : Int)
    refine ⟨by first | with_reducible rfl | rfl, ?_⟩ -- (0 : Int) = (0 : Int)
    refine ⟨by first | omega | (dsimp only; omega), ?_⟩ -- (0 : Int) ≤ (0 : Int) ∧ (0 : Int) ≤ (↑ys_1.length : Int)
    refine ⟨by show ys_1 = lastL n.toNat L; assumption, ?_⟩ -- ys_1 = lastL n.toNat L
    refine ⟨by show ys_1.length ≤ (2000 : Nat); assumption, ?_⟩ -- ys_1.length ≤ (2000 : Nat)
    refine ⟨by rfl, ?_⟩ -- (0 : Int) * (2147483648 : Int) + (0 : Int) = sumL (List.take (Int.toNat (0 : Int)) ys_1)
    refine ⟨by first | omega | (dsimp only; omega), ?_⟩ -- (-4294967296 : Int) * (0 : Int) ≤ (0 : Int) ∧ (0 : Int) ≤ (4294967296 : Int) * (0 : Int)
    refine ⟨by show (-2147483648 : Int) * (0 : Int) ≤ (0 : Int); omega, ?_⟩ -- (-2147483648 : Int) * (0 : Int) ≤ (0 : Int)
    exact by show (0 : Int) ≤ (2147483648 : Int) * (0 : Int); omega -- (0 : Int) ≤ (2147483648 : Int) * (0 : Int)
  intro v_4
  intro h3 -- ((0 : Int) ≤ v_4.snd.snd.fst ∧ v_4.snd.snd.fst ≤ (↑v_4.snd.snd.snd.length : Int)) ∧ v_4.snd.snd.snd = lastL n.toNat L ∧ v_4.snd.snd.snd.length ≤ (2000 : Nat) ∧ v_4.fst * (2147483648 : Int) + v_4.snd.fst = sumL (List.take v_4.snd.snd.fst.toNat v_4.snd.snd.snd) ∧ ((-4294967296 : Int) * v_4.snd.snd.fst ≤ v_4.fst ∧ v_4.fst ≤ (4294967296 : Int) * v_4.snd.snd.fst) ∧ (-2147483648 : Int) * v_4.snd.snd.fst ≤ v_4.snd.fst ∧ v_4.snd.fst ≤ (2147483648 : Int) * v_4.snd.snd.fst
  intro n6
  intro q6 -- n6 = (↑v_4.snd.snd.snd.length : Int)
  intro ⟨l6, u6⟩ -- (-9223372036854775808 : Int) ≤ n6 ∧ n6 ≤ (9223372036854775807 : Int)
  refine brd (fun c4 => ?_) (fun c4 => ?_) -- decide (v_4.snd.snd.fst < n6)
  · -- yes
    refine ⟨by first | omega | (dsimp only; omega), ?_⟩ -- (0 : Int) ≤ v_4.snd.snd.fst
    refine ⟨by first | omega | (dsimp only; omega), ?_⟩ -- v_4.snd.snd.fst < (↑v_4.snd.snd.snd.length : Int)
    intro n9
    intro q9 -- n9 = v_4.snd.snd.snd.getD v_4.snd.snd.fst.toNat (0 : Int)
    intro ⟨l9, u9⟩ -- (-9223372036854775808 : Int) ≤ n9 ∧ n9 ≤ (9223372036854775807 : Int)
    refine ⟨by first | omega | (dsimp only; omega), ?_⟩ -- (2147483648 : Int) ≠ (0 : Int)
    intro n12
    intro q12 -- n12 = IntKind.i64.wrap (n9.tdiv (2147483648 : Int))
    rw [IntKind.wrap_i64] at q12
    intro ⟨l12, u12⟩ -- (-9223372036854775808 : Int) ≤ n12 ∧ n12 ≤ (9223372036854775807 : Int)
    intro n15
    intro q15 -- n15 = IntKind.i64.wrap (v_4.fst + n12)
    rw [IntKind.wrap_i64] at q15
    intro ⟨l15, u15⟩ -- (-9223372036854775808 : Int) ≤ n15 ∧ n15 ≤ (9223372036854775807 : Int)
    refine ⟨by first | omega | (dsimp only; omega), ?_⟩ -- (0 : Int) ≤ v_4.snd.snd.fst
    refine ⟨by first | omega | (dsimp only; omega), ?_⟩ -- v_4.snd.snd.fst < (↑v_4.snd.snd.snd.length : Int)
    intro n18
    intro q18 -- n18 = v_4.snd.snd.snd.getD v_4.snd.snd.fst.toNat (0 : Int)
    intro ⟨l18, u18⟩ -- (-9223372036854775808 : Int) ≤ n18 ∧ n18 ≤ (9223372036854775807 : Int)
    intro n21
    intro q21 -- n21 = IntKind.i64.wrap (v_4.snd.fst + n18)
    rw [IntKind.wrap_i64] at q21
    intro ⟨l21, u21⟩ -- (-9223372036854775808 : Int) ≤ n21 ∧ n21 ≤ (9223372036854775807 : Int)
    intro n24
    intro q24 -- n24 = IntKind.i64.wrap (n12 * (2147483648 : Int))
    rw [IntKind.wrap_i64] at q24
    intro ⟨l24, u24⟩ -- (-9223372036854775808 : Int) ≤ n24 ∧ n24 ≤ (9223372036854775807 : Int)
    intro n27
    intro q27 -- n27 = IntKind.i64.wrap (n21 - n24)
    rw [IntKind.wrap_i64] at q27
    intro ⟨l27, u27⟩ -- (-9223372036854775808 : Int) ≤ n27 ∧ n27 ≤ (9223372036854775807 : Int)
    intro n30
    intro q30 -- n30 = IntKind.i64.wrap (v_4.snd.snd.fst + (1 : Int))
    rw [IntKind.wrap_i64] at q30
    intro ⟨l30, u30⟩ -- (-9223372036854775808 : Int) ≤ n30 ∧ n30 ≤ (9223372036854775807 : Int)
    refine ⟨(n15, n27, n30, v_4.snd.snd.snd), ?_⟩
    refine ⟨by first | with_reducible rfl | rfl, ?_⟩ -- v_4.snd.snd.snd = v_4.snd.snd.snd
    refine ⟨by first | with_reducible rfl | rfl, ?_⟩ -- n15 = n15
    refine ⟨by first | with_reducible rfl | rfl, ?_⟩ -- n27 = n27
    refine ⟨by first | with_reducible rfl | rfl, ?_⟩ -- n30 = n30
    refine ⟨?_, ?_⟩
    · -- left
      refine ⟨by first | omega | (dsimp only; omega), ?_⟩ -- (0 : Int) ≤ n30 ∧ n30 ≤ (↑v_4.snd.snd.snd.length : Int)
      have h5 : v_4.snd.snd.snd = lastL n.toNat L := by
        exact h3.2.1
      refine ⟨h5, ?_⟩
      refine ⟨by show v_4.snd.snd.snd.length ≤ (2000 : Nat); omega, ?_⟩ -- v_4.snd.snd.snd.length ≤ (2000 : Nat)
      have h6 : n15 * (2147483648 : Int) + n27 = sumL (List.take n30.toNat v_4.snd.snd.snd) := by
        have e9 : n18 = n9 := by rw [q18, q9]
        have t := tdiv_cases n9
        have e12 : n12 = n9.tdiv 2147483648 := by clear q15 q21 q24 q27 q30; omega
        have b12 : (-4294967296 ≤ n12 ∧ n12 ≤ 4294967295) ∧ (-2147483648 < n9 - n12 * 2147483648 ∧ n9 - n12 * 2147483648 < 2147483648) := by clear q12 q15 q21 q24 q27 q30; omega
        have hb := h3.2.2.2.2
        have hi := h3.1
        have hl := h3.2.2.1
        clear t q12
        have e15 : n15 = v_4.fst + n12 := by clear q21 q24 q27 q30; omega
        have e24 : n24 = n12 * 2147483648 := by clear q21 q15 q27 q30; omega
        have e27 : n27 = v_4.snd.fst + (n9 - n12 * 2147483648) := by clear q15 q24 q30 q9 q18; omega
        have e30 : n30 = v_4.snd.snd.fst + 1 := by clear q15 q24 q21 q27; omega
        clear q15 q21 q24 q27 q30
        rw [e30, sumL_next (by omega) (by omega), ← h3.2.2.2.1, ← q9]
        omega
      refine ⟨h6, ?_⟩
      refine ⟨?_, ?_⟩
      · -- left
        have h7 : (-4294967296 : Int) * n30 ≤ n15 := by
          have e9 : n18 = n9 := by rw [q18, q9]
          have t := tdiv_cases n9
          have e12 : n12 = n9.tdiv 2147483648 := by clear q15 q21 q24 q27 q30; omega
          have b12 : (-4294967296 ≤ n12 ∧ n12 ≤ 4294967295) ∧ (-2147483648 < n9 - n12 * 2147483648 ∧ n9 - n12 * 2147483648 < 2147483648) := by clear q12 q15 q21 q24 q27 q30; omega
          have hb := h3.2.2.2.2
          have hi := h3.1
          have hl := h3.2.2.1
          clear t q12
          have e15 : n15 = v_4.fst + n12 := by clear q21 q24 q27 q30; omega
          have e24 : n24 = n12 * 2147483648 := by clear q21 q15 q27 q30; omega
          have e27 : n27 = v_4.snd.fst + (n9 - n12 * 2147483648) := by clear q15 q24 q30 q9 q18; omega
          have e30 : n30 = v_4.snd.snd.fst + 1 := by clear q15 q24 q21 q27; omega
          clear q15 q21 q24 q27 q30
          (try dsimp only)
          omega
        refine ⟨h7, ?_⟩
        -- n15 ≤ (4294967296 : Int) * n30
        have e9 : n18 = n9 := by rw [q18, q9]
        have t := tdiv_cases n9
        have e12 : n12 = n9.tdiv 2147483648 := by clear q15 q21 q24 q27 q30; omega
        have b12 : (-4294967296 ≤ n12 ∧ n12 ≤ 4294967295) ∧ (-2147483648 < n9 - n12 * 2147483648 ∧ n9 - n12 * 2147483648 < 2147483648) := by clear q12 q15 q21 q24 q27 q30; omega
        have hb := h3.2.2.2.2
        have hi := h3.1
        have hl := h3.2.2.1
        clear t q12
        have e15 : n15 = v_4.fst + n12 := by clear q21 q24 q27 q30; omega
        have e24 : n24 = n12 * 2147483648 := by clear q21 q15 q27 q30; omega
        have e27 : n27 = v_4.snd.fst + (n9 - n12 * 2147483648) := by clear q15 q24 q30 q9 q18; omega
        have e30 : n30 = v_4.snd.snd.fst + 1 := by clear q15 q24 q21 q27; omega
        clear q15 q21 q24 q27 q30
        (try dsimp only)
        omega
      have h8 : (-2147483648 : Int) * n30 ≤ n27 := by
        have e9 : n18 = n9 := by rw [q18, q9]
        have t := tdiv_cases n9
        have e12 : n12 = n9.tdiv 2147483648 := by clear q15 q21 q24 q27 q30; omega
        have b12 : (-4294967296 ≤ n12 ∧ n12 ≤ 4294967295) ∧ (-2147483648 < n9 - n12 * 2147483648 ∧ n9 - n12 * 2147483648 < 2147483648) := by clear q12 q15 q21 q24 q27 q30; omega
        have hb := h3.2.2.2.2
        have hi := h3.1
        have hl := h3.2.2.1
        clear t q12
        have e15 : n15 = v_4.fst + n12 := by clear q21 q24 q27 q30; omega
        have e24 : n24 = n12 * 2147483648 := by clear q21 q15 q27 q30; omega
        have e27 : n27 = v_4.snd.fst + (n9 - n12 * 2147483648) := by clear q15 q24 q30 q9 q18; omega
        have e30 : n30 = v_4.snd.snd.fst + 1 := by clear q15 q24 q21 q27; omega
        clear q15 q21 q24 q27 q30
        (try dsimp only)
        omega
      refine ⟨h8, ?_⟩
      -- n27 ≤ (2147483648 : Int) * n30
      have e9 : n18 = n9 := by rw [q18, q9]
      have t := tdiv_cases n9
      have e12 : n12 = n9.tdiv 2147483648 := by clear q15 q21 q24 q27 q30; omega
      have b12 : (-4294967296 ≤ n12 ∧ n12 ≤ 4294967295) ∧ (-2147483648 < n9 - n12 * 2147483648 ∧ n9 - n12 * 2147483648 < 2147483648) := by clear q12 q15 q21 q24 q27 q30; omega
      have hb := h3.2.2.2.2
      have hi := h3.1
      have hl := h3.2.2.1
      clear t q12
      have e15 : n15 = v_4.fst + n12 := by clear q21 q24 q27 q30; omega
      have e24 : n24 = n12 * 2147483648 := by clear q21 q15 q27 q30; omega
      have e27 : n27 = v_4.snd.fst + (n9 - n12 * 2147483648) := by clear q15 q24 q30 q9 q18; omega
      have e30 : n30 = v_4.snd.snd.fst + 1 := by clear q15 q24 q21 q27; omega
      clear q15 q21 q24 q27 q30
      (try dsimp only)
      omega
    exact by show ((↑v_4.snd.snd.snd.length : Int) - n30).toNat < ((↑v_4.snd.snd.snd.length : Int) - v_4.snd.snd.fst).toNat; omega -- ((↑v_4.snd.snd.snd.length : Int) - n30).toNat < ((↑v_4.snd.snd.snd.length : Int) - v_4.snd.snd.fst).toNat
  · -- no
    refine ⟨by first | omega | (dsimp only; omega), ?_⟩ -- (2147483648 : Int) ≠ (0 : Int)
    intro n33
    intro q33 -- n33 = IntKind.i64.wrap (v_4.snd.fst.tdiv (2147483648 : Int))
    rw [IntKind.wrap_i64] at q33
    intro ⟨l33, u33⟩ -- (-9223372036854775808 : Int) ≤ n33 ∧ n33 ≤ (9223372036854775807 : Int)
    intro n36
    intro q36 -- n36 = IntKind.i64.wrap (v_4.fst + n33)
    rw [IntKind.wrap_i64] at q36
    intro ⟨l36, u36⟩ -- (-9223372036854775808 : Int) ≤ n36 ∧ n36 ≤ (9223372036854775807 : Int)
    refine ⟨by first | omega | (dsimp only; omega), ?_⟩ -- (2147483648 : Int) ≠ (0 : Int)
    intro n39
    intro q39 -- n39 = v_4.snd.fst.tmod (2147483648 : Int)
    intro ⟨l39, u39⟩ -- (-9223372036854775808 : Int) ≤ n39 ∧ n39 ≤ (9223372036854775807 : Int)
    refine br_intro (fun c9 => ?_) (fun c9 => ?_) -- bif decide (n36 > (2147483648 : Int)) then true else bif n36 == (2147483648 : Int) then decide (n39 ≥ (0 : Int)) else false
    · -- yes
      simp at c9 -- (2147483648 : Int) < n36 ∨ n36 = (2147483648 : Int) ∧ (0 : Int) ≤ n39
      -- k (AV.int IntKind.i64 (4611686018427387904 : Int)) [] []
      have t := tdiv_cases v_4.snd.fst
      have u := tmod_cases v_4.snd.fst
      have E := h3.2.2.2.1
      rw [List.take_of_length_le (by omega), h3.2.1] at E
      have hb := h3.2.2.2.2
      have hi := h3.1
      have hl := h3.2.2.1
      clear h3
      have e33 : n33 = v_4.snd.fst.tdiv 2147483648 := by clear q36; omega
      have e36 : n36 = v_4.fst + n33 := by omega
      clear q33 q36
      exact hk _ (by rw [← E]; unfold clampS; omega) (by omega)
    · -- no
      simp at c9 -- n36 ≤ (2147483648 : Int) ∧ (n36 = (2147483648 : Int) → n39 < (0 : Int))
      refine br_intro (fun c10 => ?_) (fun c10 => ?_) -- bif decide (n36 < (-2147483648 : Int)) then true else bif n36 == (-2147483648 : Int) then decide (n39 ≤ (0 : Int)) else false
      · -- yes
        simp at c10 -- n36 < (-2147483648 : Int) ∨ n36 = (-2147483648 : Int) ∧ n39 ≤ (0 : Int)
        -- k (AV.int IntKind.i64 (-4611686018427387904 : Int)) [] []
        have t := tdiv_cases v_4.snd.fst
        have u := tmod_cases v_4.snd.fst
        have E := h3.2.2.2.1
        rw [List.take_of_length_le (by omega), h3.2.1] at E
        have hb := h3.2.2.2.2
        have hi := h3.1
        have hl := h3.2.2.1
        clear h3
        have e33 : n33 = v_4.snd.fst.tdiv 2147483648 := by clear q36; omega
        have e36 : n36 = v_4.fst + n33 := by omega
        clear q33 q36
        exact hk _ (by rw [← E]; unfold clampS; omega) (by omega)
      · -- no
        simp at c10 -- (-2147483648 : Int) ≤ n36 ∧ (n36 = (-2147483648 : Int) → (0 : Int) < n39)
        intro n42
        intro q42 -- n42 = IntKind.i64.wrap (n36 * (2147483648 : Int))
        rw [IntKind.wrap_i64] at q42
        intro ⟨l42, u42⟩ -- (-9223372036854775808 : Int) ≤ n42 ∧ n42 ≤ (9223372036854775807 : Int)
        intro n45
        intro q45 -- n45 = IntKind.i64.wrap (n42 + n39)
        rw [IntKind.wrap_i64] at q45
        intro ⟨l45, u45⟩ -- (-9223372036854775808 : Int) ≤ n45 ∧ n45 ≤ (9223372036854775807 : Int)
        -- k (AV.int IntKind.i64 n45) [] []
        have t := tdiv_cases v_4.snd.fst
        have u := tmod_cases v_4.snd.fst
        have E := h3.2.2.2.1
        rw [List.take_of_length_le (by omega), h3.2.1] at E
        have hb := h3.2.2.2.2
        have hi := h3.1
        have hl := h3.2.2.1
        clear h3
        have e33 : n33 = v_4.snd.fst.tdiv 2147483648 := by clear q36; omega
        have e36 : n36 = v_4.fst + n33 := by omega
        clear q33 q36
        have e42 : n42 = n36 * 2147483648 := by clear q45; omega
        have e45 : n45 = n42 + n39 := by omega
        clear q42 q45
        exact hk _ (by rw [← E]; unfold clampS; omega) (by omega)

theorem fsum_ok : Holds Try.prog 17 fsumS := by
  refine fn_sound (env := mkEnv F1) (tab_ok F1_ok) Try.func17 Try.call17 fun args k h => ?_
  match args, h with
  | [.agg [.int .i64 n, .sl 1 L]], h => exact ⟨by kernel_rfl, fsumLoops n L, fun _ _ => none, .cast (by kernel_rfl) (fsum_vc n L h.1 h.2.1 k h.2.2)⟩
set_option maxHeartbeats 2000000 in
theorem fsame_vc (a : List Int) (b : List Int) (k : AV → List (Option Blk) → List Blk → Prop) (hk : ∀ (r : Bool), (r = true ↔ a = b) → k (AV.bool r) [] []) :
  ∀ (n1 : Int),
  (n1 = (↑a.length : Int)) →
  ((-9223372036854775808 : Int) ≤ n1 ∧ n1 ≤ (9223372036854775807 : Int)) →
  ∀ (n4 : Int),
  (n4 = (↑b.length : Int)) →
  ((-9223372036854775808 : Int) ≤ n4 ∧ n4 ≤ (9223372036854775807 : Int)) →
  br (n1 != n4)
   ((k (AV.bool false) [] []))
   ((
     ∃ (v : Int),
     (a = a) ∧
     (b = b) ∧
     ((0 : Int) = v) ∧
     (
      ((0 : Int) ≤ v) ∧
      (v ≤ (↑a.length : Int))) ∧
     (List.take v.toNat a = List.take v.toNat b)) ∧
    ∀ (v_7 : Int),
    (((0 : Int) ≤ v_7 ∧ v_7 ≤ (↑a.length : Int)) ∧ List.take v_7.toNat a = List.take v_7.toNat b) →
    ∀ (n9 : Int),
    (n9 = (↑a.length : Int)) →
    ((-9223372036854775808 : Int) ≤ n9 ∧ n9 ≤ (9223372036854775807 : Int)) →
    br (decide (v_7 < n9))
     (((0 : Int) ≤ v_7) ∧
      (v_7 < (↑a.length : Int)) ∧
      ∀ (n12 : Int),
      (n12 = a.getD v_7.toNat (0 : Int)) →
      ((-9223372036854775808 : Int) ≤ n12 ∧ n12 ≤ (9223372036854775807 : Int)) →
      ((0 : Int) ≤ v_7) ∧
      (v_7 < (↑b.length : Int)) ∧
      ∀ (n15 : Int),
      (n15 = b.getD v_7.toNat (0 : Int)) →
      ((-9223372036854775808 : Int) ≤ n15 ∧ n15 ≤ (9223372036854775807 : Int)) →
      br (n12 != n15)
       ((k (AV.bool false) [] []))
       (∀ (n18 : Int),
        (n18 = IntKind.i64.wrap (v_7 + (1 : Int))) →
        ((-9223372036854775808 : Int) ≤ n18 ∧ n18 ≤ (9223372036854775807 : Int)) →
        ∃ (v' : Int),
        (a = a) ∧
        (b = b) ∧
        (n18 = v') ∧
        (
         (
          ((0 : Int) ≤ v') ∧
          (v' ≤ (↑a.length : Int))) ∧
         (List.take v'.toNat a = List.take v'.toNat b)) ∧
        (((↑a.length : Int) - v').toNat < ((↑a.length : Int) - v_7).toNat)))
     ((k (AV.bool true) [] []))) := by
  intro n1
  intro q1 -- n1 = (↑a.length : Int)
  intro ⟨l1, u1⟩ -- (-9223372036854775808 : Int) ≤ n1 ∧ n1 ≤ (9223372036854775807 : Int)
  intro n4
  intro q4 -- n4 = (↑b.length : Int)
  intro ⟨l4, u4⟩ -- (-9223372036854775808 : Int) ≤ n4 ∧ n4 ≤ (9223372036854775807 : Int)
  refine br_intro (fun c1 => ?_) (fun c1 => ?_) -- n1 != n4
  · -- yes
    simp at c1 -- ¬n1 = n4
    -- k (AV.bool false) [] []
    exact hk false ⟨fun h => (by cases h), fun h => absurd (congrArg List.length h) (by omega)⟩
  · -- no
    simp at c1 -- n1 = n4
    refine ⟨?_, ?_⟩
    · -- left
      refine ⟨(0 : Int), ?_⟩
      refine ⟨by first | with_reducible rfl | rfl, ?_⟩ -- a = a
      refine ⟨by first | with_reducible rfl | rfl, ?_⟩ -- b = b
      refine ⟨by first | with_reducible rfl | rfl, ?_⟩ -- (0 : Int) = (0 : Int)
      refine ⟨by first | omega | (dsimp only; omega), ?_⟩ -- (0 : Int) ≤ (0 : Int) ∧ (0 : Int) ≤ (↑a.length : Int)
      exact by rfl -- List.take (Int.toNat (0 : Int)) a = List.take (Int.toNat (0 : Int)) b
    intro v_7
    intro h2 -- ((0 : Int) ≤ v_7 ∧ v_7 ≤ (↑a.length : Int)) ∧ List.take v_7.toNat a = List.take v_7.toNat b
    intro n9
    intro q9 -- n9 = (↑a.length : Int)
    intro ⟨l9, u9⟩ -- (-9223372036854775808 : Int) ≤ n9 ∧ n9 ≤ (9223372036854775807 : Int)
    refine brd (fun c3 => ?_) (fun c3 => ?_) -- decide (v_7 < n9)
    · -- yes
      refine ⟨by first | omega | (dsimp only; omega), ?_⟩ -- (0 : Int) ≤ v_7
      refine ⟨by first | omega | (dsimp only; omega), ?_⟩ -- v_7 < (↑a.length : Int)
      intro n12
      intro q12 -- n12 = a.getD v_7.toNat (0 : Int)
      intro ⟨l12, u12⟩ -- (-9223372036854775808 : Int) ≤ n12 ∧ n12 ≤ (9223372036854775807 : Int)
      refine ⟨by first | omega | (dsimp only; omega), ?_⟩ -- (0 : Int) ≤ v_7
      refine ⟨by first | omega | (dsimp only; omega), ?_⟩ -- v_7 < (↑b.length : Int)
      intro n15
      intro q15 -- n15 = b.getD v_7.toNat (0 : Int)
      intro ⟨l15, u15⟩ -- (-9223372036854775808 : Int) ≤ n15 ∧ n15 ≤ (9223372036854775807 : Int)
      refine br_intro (fun c4 => ?_) (fun c4 => ?_) -- n12 != n15
      · -- yes
        simp at c4 -- ¬n12 = n15
        -- k (AV.bool false) [] []
        exact hk false ⟨fun h => (by cases h), fun h => absurd (by rw [q12, q15, h]) c4⟩
      · -- no
        simp at c4 -- n12 = n15
        intro n18
        intro q18 -- n18 = IntKind.i64.wrap (v_7 + (1 : Int))
        rw [IntKind.wrap_i64] at q18
        intro ⟨l18, u18⟩ -- (-9223372036854775808 : Int) ≤ n18 ∧ n18 ≤ (9223372036854775807 : Int)
        refine ⟨n18, ?_⟩
        refine ⟨by first | with_reducible rfl | rfl, ?_⟩ -- a = a
        refine ⟨by first | with_reducible rfl | rfl, ?_⟩ -- b = b
        refine ⟨by first | with_reducible rfl | rfl, ?_⟩ -- n18 = n18
        refine ⟨?_, ?_⟩
        · -- left
          refine ⟨by first | omega | (dsimp only; omega), ?_⟩ -- (0 : Int) ≤ n18 ∧ n18 ≤ (↑a.length : Int)
          -- List.take n18.toNat a = List.take n18.toNat b
          rw [show n18 = v_7 + 1 by omega, take_next (by omega) (by omega), take_next (by omega) (by omega), h2.2, ← q12, ← q15, c4]
        exact by show ((↑a.length : Int) - n18).toNat < ((↑a.length : Int) - v_7).toNat; omega -- ((↑a.length : Int) - n18).toNat < ((↑a.length : Int) - v_7).toNat
    · -- no
      -- k (AV.bool true) [] []
      exact hk true ⟨fun _ => by
        have t := h2.2
        rw [List.take_of_length_le (by omega), List.take_of_length_le (by omega)] at t
        exact t, fun _ => rfl⟩

theorem fsame_ok : Holds Try.prog 15 fsameS := by
  refine fn_sound (env := mkEnv T0) (tab_ok T0_ok) Try.func15 Try.call15 fun args k h => ?_
  match args, h with
  | [.sl 1 a, .sl 1 b], h => exact ⟨by kernel_rfl, fsameLoops a b, fun _ _ => none, .cast (by kernel_rfl) (fsame_vc a b k h)⟩
set_option maxHeartbeats 2000000 in
theorem fpush_vc (n : Int) (L : List Int) (x : Int) (hn : (-9223372036854775808 : Int) ≤ n ∧ n ≤ (9223372036854775807 : Int)) (hL : L.length ≤ (2000 : Nat)) (hx : (-9223372036854775808 : Int) ≤ x ∧ x ≤ (9223372036854775807 : Int)) (k : AV → List (Option Blk) → List Blk → Prop) (hk : ∀ (ys : List Int) (q : Nat), ys = L ++ [x] → ys.length = q → k (AV.agg [AV.int IntKind.i64 n, AV.row (1 : Nat) (0 : Nat) (0 : Nat) q]) [] [Blk.row (1 : Nat) ys]) :
  (L.length * (8 : Nat) ≤ (140737488355328 : Nat)) ∧
  ∀ (z1 : List Int),
  (z1 = L) →
  (
   (
    ∀ (n3 : Int),
    (n3 = n) →
    ((-9223372036854775808 : Int) ≤ n3 ∧ n3 ≤ (9223372036854775807 : Int)) →
    ((L.length + (1 : Nat)) * (8 : Nat) ≤ (140737488355328 : Nat)) ∧
    ∀ (z6 : List Int),
    (z6 = List.take L.length z1 ++ List.take (1 : Nat) (List.drop (0 : Nat) [x])) →
    (k (AV.agg [AV.int IntKind.i64 n3, AV.row (1 : Nat) (0 : Nat) (0 : Nat) (L.length + (1 : Nat))]) [] [Blk.row (1 : Nat) z6])) ∧
   (
    ∀ (n8 : Int),
    (n8 = n) →
    ((-9223372036854775808 : Int) ≤ n8 ∧ n8 ≤ (9223372036854775807 : Int)) →
    ((L.length + (1 : Nat)) * (8 : Nat) ≤ (140737488355328 : Nat)) ∧
    ∀ (z11 : List Int),
    (z11 = List.take L.length z1 ++ List.take (1 : Nat) (List.drop (0 : Nat) [x])) →
    (k (AV.agg [AV.int IntKind.i64 n8, AV.row (1 : Nat) (0 : Nat) (0 : Nat) (L.length + (1 : Nat))]) [] [Blk.row (1 : Nat) z11])) ∧
   ((L.length + (1 : Nat)) * (8 : Nat) ≤ (140737488355328 : Nat)) ∧
   ∀ (z13 : List Int),
   (z13 = List.take L.length z1 ++ List.take (1 : Nat) (List.drop (0 : Nat) [x])) →
   ∀ (n15 : Int),
   (n15 = n) →
   ((-9223372036854775808 : Int) ≤ n15 ∧ n15 ≤ (9223372036854775807 : Int)) →
   (k (AV.agg [AV.int IntKind.i64 n15, AV.row (1 : Nat) (0 : Nat) (0 : Nat) (L.length + (1 : Nat))]) [] [Blk.row (1 : Nat) z13])) ∧
  (
   (
    ∀ (n18 : Int),
    (n18 = n) →
    ((-9223372036854775808 : Int) ≤ n18 ∧ n18 ≤ (9223372036854775807 : Int)) →
    ((L.length + (1 : Nat)) * (8 : Nat) ≤ (140737488355328 : Nat)) ∧
    ∀ (z21 : List Int),
    (z21 = List.take L.length z1 ++ List.take (1 : Nat) (List.drop (0 : Nat) [x])) →
    (k (AV.agg [AV.int IntKind.i64 n18, AV.row (1 : Nat) (0 : Nat) (0 : Nat) (L.length + (1 : Nat))]) [] [Blk.row (1 : Nat) z21])) ∧
   ((L.length + (1 : Nat)) * (8 : Nat) ≤ (140737488355328 : Nat)) ∧
   ∀ (z23 : List Int),
   (z23 = List.take L.length z1 ++ List.take (1 : Nat) (List.drop (0 : Nat) [x])) →
   ∀ (n25 : Int),
   (n25 = n) →
   ((-9223372036854775808 : Int) ≤ n25 ∧ n25 ≤ (9223372036854775807 : Int)) →
   (k (AV.agg [AV.int IntKind.i64 n25, AV.row (1 : Nat) (0 : Nat) (0 : Nat) (L.length + (1 : Nat))]) [] [Blk.row (1 : Nat) z23])) ∧
  ((L.length + (1 : Nat)) * (8 : Nat) ≤ (140737488355328 : Nat)) ∧
  ∀ (z28 : List Int),
  (z28 = List.take L.length z1 ++ List.take (1 : Nat) (List.drop (0 : Nat) [x])) →
  ∀ (n30 : Int),
  (n30 = n) →
  ((-9223372036854775808 : Int) ≤ n30 ∧ n30 ≤ (9223372036854775807 : Int)) →
  (k (AV.agg [AV.int IntKind.i64 n30, AV.row (1 : Nat) (0 : Nat) (0 : Nat) (L.length + (1 : Nat))]) [] [Blk.row (1 : Nat) z28]) := by
  refine ⟨by first | omega | (dsimp only; omega), ?_⟩ -- L.length * (8 : Nat) ≤ (140737488355328 : Nat)
  intro z1
  intro qz1 -- z1 = L
  refine ⟨?_, ?_⟩
  · -- left
    refine ⟨?_, ?_⟩
    · -- left
      intro n3
      intro q3 -- n3 = n
      intro ⟨l3, u3⟩ -- (-9223372036854775808 : Int) ≤ n3 ∧ n3 ≤ (9223372036854775807 : Int)
      refine ⟨by first | omega | (dsimp only; omega), ?_⟩ -- (L.length + (1 : Nat)) * (8 : Nat) ≤ (140737488355328 : Nat)
      intro z6
      intro qz6 -- z6 = List.take L.length z1 ++ List.take (1 : Nat) (List.drop (0 : Nat) [x])
      -- k (AV.agg [AV.int IntKind.i64 n3, AV.row (1 : Nat) (0 : Nat) (0 : Nat) (L.length + (1 : Nat))]) [] [Blk.row (1 : Nat) z6]
      subst q3
      exact hk z6 (L.length + 1) (by rw [qz6, qz1, List.take_of_length_le (Nat.le_refl _)]; rfl) (by rw [qz6, qz1]; simp)
    refine ⟨?_, ?_⟩
    · -- left
      intro n8
      intro q8 -- n8 = n
      intro ⟨l8, u8⟩ -- (-9223372036854775808 : Int) ≤ n8 ∧ n8 ≤ (9223372036854775807 : Int)
      refine ⟨by first | omega | (dsimp only; omega), ?_⟩ -- (L.length + (1 : Nat)) * (8 : Nat) ≤ (140737488355328 : Nat)
      intro z11
      intro qz11 -- z11 = List.take L.length z1 ++ List.take (1 : Nat) (List.drop (0 : Nat) [x])
      -- k (AV.agg [AV.int IntKind.i64 n8, AV.row (1 : Nat) (0 : Nat) (0 : Nat) (L.length + (1 : Nat))]) [] [Blk.row (1 : Nat) z11]
      subst q8
      exact hk z11 (L.length + 1) (by rw [qz11, qz1, List.take_of_length_le (Nat.le_refl _)]; rfl) (by rw [qz11, qz1]; simp)
    refine ⟨by first | omega | (dsimp only; omega), ?_⟩ -- (L.length + (1 : Nat)) * (8 : Nat) ≤ (140737488355328 : Nat)
    intro z13
    intro qz13 -- z13 = List.take L.length z1 ++ List.take (1 : Nat) (List.drop (0 : Nat) [x])
    intro n15
    intro q15 -- n15 = n
    intro ⟨l15, u15⟩ -- (-9223372036854775808 : Int) ≤ n15 ∧ n15 ≤ (9223372036854775807 : Int)
    -- k (AV.agg [AV.int IntKind.i64 n15, AV.row (1 : Nat) (0 : Nat) (0 : Nat) (L.length + (1 : Nat))]) [] [Blk.row (1 : Nat) z13]
    subst q15
    exact hk z13 (L.length + 1) (by rw [qz13, qz1, List.take_of_length_le (Nat.le_refl _)]; rfl) (by rw [qz13, qz1]; simp)
  refine ⟨?_, ?_⟩
  · -- left
    refine ⟨?_, ?_⟩
    · -- left
      intro n18
      intro q18 -- n18 = n
      intro ⟨l18, u18⟩ -- (-9223372036854775808 : Int) ≤ n18 ∧ n18 ≤ (9223372036854775807 : Int)
      refine ⟨by first | omega | (dsimp only; omega), ?_⟩ -- (L.length + (1 : Nat)) * (8 : Nat) ≤ (140737488355328 : Nat)
      intro z21
      intro qz21 -- z21 = List.take L.length z1 ++ List.take (1 : Nat) (List.drop (0 : Nat) [x])
      -- k (AV.agg [AV.int IntKind.i64 n18, AV.row (1 : Nat) (0 : Nat) (0 : Nat) (L.length + (1 : Nat))]) [] [Blk.row (1 : Nat) z21]
      subst q18
      exact hk z21 (L.length + 1) (by rw [qz21, qz1, List.take_of_length_le (Nat.le_refl _)]; rfl) (by rw [qz21, qz1]; simp)
    refine ⟨by first | omega | (dsimp only; omega), ?_⟩ -- (L.length + (1 : Nat)) * (8 : Nat) ≤ (140737488355328 : Nat)
    intro z23
    intro qz23 -- z23 = List.take L.length z1 ++ List.take (1 : Nat) (List.drop (0 : Nat) [x])
    intro n25
    intro q25 -- n25 = n
    intro ⟨l25, u25⟩ -- (-9223372036854775808 : Int) ≤ n25 ∧ n25 ≤ (9223372036854775807 : Int)
    -- k (AV.agg [AV.int IntKind.i64 n25, AV.row (1 : Nat) (0 : Nat) (0 : Nat) (L.length + (1 : Nat))]) [] [Blk.row (1 : Nat) z23]
    subst q25
    exact hk z23 (L.length + 1) (by rw [qz23, qz1, List.take_of_length_le (Nat.le_refl _)]; rfl) (by rw [qz23, qz1]; simp)
  refine ⟨by first | omega | (dsimp only; omega), ?_⟩ -- (L.length + (1 : Nat)) * (8 : Nat) ≤ (140737488355328 : Nat)
  intro z28
  intro qz28 -- z28 = List.take L.length z1 ++ List.take (1 : Nat) (List.drop (0 : Nat) [x])
  intro n30
  intro q30 -- n30 = n
  intro ⟨l30, u30⟩ -- (-9223372036854775808 : Int) ≤ n30 ∧ n30 ≤ (9223372036854775807 : Int)
  -- k (AV.agg [AV.int IntKind.i64 n30, AV.row (1 : Nat) (0 : Nat) (0 : Nat) (L.length + (1 : Nat))]) [] [Blk.row (1 : Nat) z28]
  subst q30
  exact hk z28 (L.length + 1) (by rw [qz28, qz1, List.take_of_length_le (Nat.le_refl _)]; rfl) (by rw [qz28, qz1]; simp)

theorem fpush_ok : Holds Try.prog 18 fpush0S := by
  refine fn_sound (env := mkEnv T0) (tab_ok T0_ok) Try.func18 Try.call18 fun args k h => ?_
  match args, h with
  | [.agg [.int .i64 n, .sl 1 L], .int .i64 x], h => exact ⟨by kernel_rfl, fun _ _ => none, fun _ _ => none, .cast (by kernel_rfl) (fpush_vc n L x h.1 h.2.1 h.2.2.1 k h.2.2.2)⟩
theorem fpushF_ok : Holds Try.prog 18 fpushS := fpush_ok.fz rfl rfl rfl rfl fun args k h => by
  unfold fpushS at h
  dsimp only at h
  split at h
  · refine ⟨h.1, h.2.1, h.2.2.1, fun ys q hy hq => ?_⟩
    subst hq; subst hy
    have h := h.2.2.2
    show k (.agg [_, .sl 1 (List.take _ (List.drop 0 _))]) [] []
    rw [List.drop_zero, List.take_length]
    exact h
  · exact h.elim
end Go.Proofs.Ytcnnbofjgmohaaa

