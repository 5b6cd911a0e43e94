import Derived.Test.YtiekaipompepdaaBkD
namespace Go.Proofs.Ytiekaipompepdaa
open Go Go.Eng Go.Bk Go.Proofs
set_option linter.unusedVariables false
set_option maxHeartbeats 2000000 in
theorem many_vc (d : List UInt8) (k : AV → List (Option Blk) → List Blk → Prop) (hk : ∀ (e m : Int), e = chkE d → (m = if dOk d.length then (↑(d.length / (64 : Nat)) : Int) else (0 : Int)) → k (AV.tup [AV.int IntKind.i64 m, AV.int IntKind.i64 e]) [] []) :
  ∀ (e_1 : Int),
  (e_1 = chkE d) →
  br (e_1 != (0 : Int))
   ((k (AV.tup [AV.int IntKind.i64 (0 : Int), AV.int IntKind.i64 e_1]) [] []))
   (∀ (n3 : Int),
    (n3 = (↑d.length : Int)) →
    ((-9223372036854775808 : Int) ≤ n3 ∧ n3 ≤ (9223372036854775807 : Int)) →
    ((64 : Int) ≠ (0 : Int)) ∧
    ∀ (n6 : Int),
    (n6 = IntKind.i64.wrap (n3.tdiv (64 : Int))) →
    ((-9223372036854775808 : Int) ≤ n6 ∧ n6 ≤ (9223372036854775807 : Int)) →
    (k (AV.tup [AV.int IntKind.i64 n6, AV.int IntKind.i64 (0 : Int)]) [] [])) := by
  intro e_1
  intro h1 -- e_1 = chkE d
  refine br_intro (fun c2 => ?_) (fun c2 => ?_) -- e_1 != (0 : Int)
  · -- yes
    simp at c2 -- ¬e_1 = (0 : Int)
    -- k (AV.tup [AV.int IntKind.i64 (0 : Int), AV.int IntKind.i64 e_1]) [] []
    exact hk e_1 0 h1 (by rw [if_neg (fun c => c2 (h1.trans (chk_0.2 c)))])
  · -- no
    simp at c2 -- e_1 = (0 : Int)
    intro n3
    intro q3 -- n3 = (↑d.length : Int)
    intro ⟨l3, u3⟩ -- (-9223372036854775808 : Int) ≤ n3 ∧ n3 ≤ (9223372036854775807 : Int)
    refine ⟨by first | omega | (dsimp only; omega), ?_⟩ -- (64 : Int) ≠ (0 : Int)
    intro n6
    intro q6 -- n6 = IntKind.i64.wrap (n3.tdiv (64 : Int))
    rw [Int.tdiv_eq_ediv_of_nonneg (by omega)] at q6
    rw [IntKind.wrap_i64] at q6
    intro ⟨l6, u6⟩ -- (-9223372036854775808 : Int) ≤ n6 ∧ n6 ≤ (9223372036854775807 : Int)
    -- k (AV.tup [AV.int IntKind.i64 n6, AV.int IntKind.i64 (0 : Int)]) [] []
    exact hk 0 n6 (h1.symm.trans c2).symm (by rw [if_pos (chk_0.1 (h1.symm.trans c2))]; omega)

theorem many_ok : Holds Try.prog 14 manyS := by
  refine fn_sound (env := mkEnv N1) (tab_ok N1_ok) Try.func14 Try.call14 fun args k h => ?_
  match args, h with
  | [.agg [.sl 0 d]], h => exact ⟨by kernel_rfl, fun _ _ => none, fun _ _ => none, .cast (by kernel_rfl) (many_vc d k h)⟩
set_option maxHeartbeats 2000000 in
theorem bsame_vc (a : List UInt8) (b : List UInt8) (k : AV → List (Option Blk) → List Blk → Prop) (hk : ∀ (r : Bool), (r = true ↔ a = b) → k (AV.bool r) [] []) :
  ∀ (r_1 : Bool),
  (r_1 = true ↔ a = b) →
  (k (AV.bool r_1) [] []) := by
  intro r_1
  intro h1 -- r_1 = true ↔ a = b
  -- k (AV.bool r_1) [] []
  exact hk _ h1

theorem bsame_ok : Holds Try.prog 12 sameS := by
  refine fn_sound (env := mkEnv N1) (tab_ok N1_ok) Try.func12 Try.call12 fun args k h => ?_
  match args, h with
  | [.agg [.sl 0 a], .agg [.sl 0 b]], h => exact ⟨by kernel_rfl, fun _ _ => none, fun _ _ => none, .cast (by kernel_rfl) (bsame_vc a b k h)⟩
theorem N2_ok : TabOk Try.prog N2 := ⟨many_ok, trivial⟩
set_option maxHeartbeats 2000000 in
theorem asked_vc (d : List UInt8) (n : Int) (k : AV → List (Option Blk) → List Blk → Prop) (hk : ∀ (e : Int), e = askE d n → k (AV.int IntKind.i64 e) [] []) :
  ∀ (e_1 : Int),
  ∀ (m_2 : Int),
  (e_1 = chkE d) →
  (m_2 = if dOk d.length then (↑(d.length / (64 : Nat)) : Int) else (0 : Int)) →
  br (bif e_1 == (0 : Int) then bif decide (n < (0 : Int)) then true else decide (n ≥ m_2) else false)
   ((k (AV.int IntKind.i64 (2 : Int)) [] []))
   ((k (AV.int IntKind.i64 e_1) [] [])) := by
  intro e_1
  intro m_2
  intro h1 -- e_1 = chkE d
  intro h2 -- m_2 = if dOk d.length then (↑(d.length / (64 : Nat)) : Int) else (0 : Int)
  refine br_intro (fun c3 => ?_) (fun c3 => ?_) -- bif e_1 == (0 : Int) then bif decide (n < (0 : Int)) then true else decide (n ≥ m_2) else false
  · -- yes
    simp at c3 -- e_1 = (0 : Int) ∧ (n < (0 : Int) ∨ m_2 ≤ n)
    -- k (AV.int IntKind.i64 (2 : Int)) [] []
    refine hk 2 ?_
    have o := chk_0.1 (h1.symm.trans c3.1)
    unfold askE
    rw [if_pos o] at h2 ⊢
    rw [if_neg]
    omega
  · -- no
    simp at c3 -- e_1 = (0 : Int) → (0 : Int) ≤ n ∧ n < m_2
    -- k (AV.int IntKind.i64 e_1) [] []
    by_cases o : dOk d.length
    · have z : e_1 = 0 := h1.trans (chk_0.2 o)
      rw [if_pos o] at h2
      have r := c3 z
      exact hk e_1 (by unfold askE; rw [if_pos o, if_pos (by omega)]; exact z)
    · exact hk e_1 (by rw [h1]; unfold chkE askE; rw [if_neg o, if_neg o])

theorem asked_ok : Holds Try.prog 26 askedS := by
  refine fn_sound (env := mkEnv N2) (tab_ok N2_ok) Try.func26 Try.call26 fun args k h => ?_
  match args, h with
  | [.agg [.sl 0 d], .int .i64 n], h => exact ⟨by kernel_rfl, fun _ _ => none, fun _ _ => none, .cast (by kernel_rfl) (asked_vc d n k h)⟩
set_option maxHeartbeats 2000000 in
theorem rasked_vc (d : List UInt8) (n : Int) (b : List UInt8) (k : AV → List (Option Blk) → List Blk → Prop) (hk : ∀ (e : Int), e = raskE d.length n b → k (AV.int IntKind.i64 e) [] []) :
  br (decide (n < (0 : Int)))
   ((true = true) ∧
    (k (AV.int IntKind.i64 (2 : Int)) [] []))
   (∀ (m_1 : Int),
    (m_1 = (↑(d.length / (64 : Nat)) : Int)) →
    br (bif false then true else decide (n ≥ m_1))
     ((k (AV.int IntKind.i64 (2 : Int)) [] []))
     (∀ (n3 : Int),
      (n3 = (↑b.length : Int)) →
      ((-9223372036854775808 : Int) ≤ n3 ∧ n3 ≤ (9223372036854775807 : Int)) →
      br (n3 != (64 : Int))
       ((k (AV.int IntKind.i64 (8 : Int)) [] []))
       ((k (AV.int IntKind.i64 (0 : Int)) [] [])))) := by
  refine brd (fun c1 => ?_) (fun c1 => ?_) -- decide (n < (0 : Int))
  · -- yes
    refine ⟨by with_reducible rfl, ?_⟩ -- true = true
    -- k (AV.int IntKind.i64 (2 : Int)) [] []
    exact hk 2 (by unfold raskE; rw [if_neg (by omega)])
  · -- no
    intro m_1
    intro h2 -- m_1 = (↑(d.length / (64 : Nat)) : Int)
    refine br_intro (fun c3 => ?_) (fun c3 => ?_) -- bif false then true else decide (n ≥ m_1)
    · -- yes
      simp at c3 -- m_1 ≤ n
      -- k (AV.int IntKind.i64 (2 : Int)) [] []
      exact hk 2 (by unfold raskE; rw [if_neg (by omega)])
    · -- no
      simp at c3 -- n < m_1
      intro n3
      intro q3 -- n3 = (↑b.length : Int)
      intro ⟨l3, u3⟩ -- (-9223372036854775808 : Int) ≤ n3 ∧ n3 ≤ (9223372036854775807 : Int)
      refine br_intro (fun c4 => ?_) (fun c4 => ?_) -- n3 != (64 : Int)
      · -- yes
        simp at c4 -- ¬n3 = (64 : Int)
        -- k (AV.int IntKind.i64 (8 : Int)) [] []
        exact hk 8 (by unfold raskE; rw [if_pos (by omega), if_neg (by omega)])
      · -- no
        simp at c4 -- n3 = (64 : Int)
        -- k (AV.int IntKind.i64 (0 : Int)) [] []
        exact hk 0 (by unfold raskE; rw [if_pos (by omega), if_pos (by omega)])

theorem rasked_ok : Holds Try.prog 31 raskedS := by
  refine fn_sound (env := mkEnv N1) (tab_ok N1_ok) Try.func31 Try.call31 fun args k h => ?_
  match args, h with
  | [.agg [.sl 0 d], .int .i64 n, .sl 0 b], h => exact ⟨by kernel_rfl, fun _ _ => none, fun _ _ => none, .cast (by kernel_rfl) (rasked_vc d n b k h)⟩
set_option maxHeartbeats 2000000 in
theorem rputb_vc (d : List UInt8) (n : Int) (b : List UInt8) (m : Int) (hm : dOk d.length ∧ ((0 : Int) ≤ n ∧ (64 : Int) * n + (64 : Int) ≤ (↑d.length : Int)) ∧ b.length = (64 : Nat) ∧ (0 : Int) ≤ m ∧ m ≤ (64 : Int)) (k : AV → List (Option Blk) → List Blk → Prop) (hk : ∀ (ys : List UInt8) (q : Nat), ys = wr d n b m.toNat → ys.length = q → k (AV.agg [AV.row (0 : Nat) (0 : Nat) (0 : Nat) q]) [] [Blk.row (0 : Nat) ys]) :
  (d.length ≤ (1000000 : Nat)) ∧
  ∀ (ys_1 : List UInt8),
  ∀ (n_2 : Nat),
  (ys_1 = d) →
  (ys_1.length = n_2) →
  (
   ∃ (v : Nat × List UInt8),
   (n = n) ∧
   (b = b) ∧
   (m = m) ∧
   ((0 : Int) = (↑v.fst : Int)) ∧
   ((0 : Nat) = (0 : Nat)) ∧
   (n_2 = d.length) ∧
   (ys_1 = v.snd) ∧
   ((↑v.fst : Int) ≤ m) ∧
   (v.snd.length = d.length) ∧
   (v.snd = wr d n b v.fst)) ∧
  ∀ (v_5 : Nat × List UInt8),
  ((↑v_5.fst : Int) ≤ m ∧ v_5.snd.length = d.length ∧ v_5.snd = wr d n b v_5.fst) →
  br (decide ((↑v_5.fst : Int) < m))
   (∀ (n7 : Int),
    (n7 = IntKind.i64.wrap (n * (64 : Int))) →
    ((-9223372036854775808 : Int) ≤ n7 ∧ n7 ≤ (9223372036854775807 : Int)) →
    ∀ (n10 : Int),
    (n10 = IntKind.i64.wrap (n7 + (↑v_5.fst : Int))) →
    ((-9223372036854775808 : Int) ≤ n10 ∧ n10 ≤ (9223372036854775807 : Int)) →
    ((0 : Int) ≤ (↑v_5.fst : Int)) ∧
    ((↑v_5.fst : Int) < (↑b.length : Int)) ∧
    ∀ (n13 : Int),
    (n13 = (↑(b.getD (↑v_5.fst : Int).toNat (0 : UInt8)).toNat : Int)) →
    ((0 : Int) ≤ n13 ∧ n13 ≤ (255 : Int)) →
    ((0 : Int) ≤ n10) ∧
    (n10 < (↑d.length : Int)) ∧
    ((0 : Nat) + n10.toNat < v_5.snd.length) ∧
    ∀ (z16 : List UInt8),
    (z16 = v_5.snd.set ((0 : Nat) + n10.toNat) (UInt8.ofNat n13.toNat)) →
    ∀ (n18 : Int),
    (n18 = IntKind.i64.wrap ((↑v_5.fst : Int) + (1 : Int))) →
    ((-9223372036854775808 : Int) ≤ n18 ∧ n18 ≤ (9223372036854775807 : Int)) →
    ∃ (v' : Nat × List UInt8),
    (n = n) ∧
    (b = b) ∧
    (m = m) ∧
    (n18 = (↑v'.fst : Int)) ∧
    ((0 : Nat) = (0 : Nat)) ∧
    (d.length = d.length) ∧
    (z16 = v'.snd) ∧
    (
     ((↑v'.fst : Int) ≤ m) ∧
     (v'.snd.length = d.length) ∧
     (v'.snd = wr d n b v'.fst)) ∧
    ((m - (↑v'.fst : Int)).toNat < (m - (↑v_5.fst : Int)).toNat))
   ((k (AV.agg [AV.row (0 : Nat) (0 : Nat) (0 : Nat) d.length]) [] [Blk.row (0 : Nat) v_5.snd])) := by
  have h1 : d.length ≤ (1000000 : Nat) := by
    have := hm.1.2.1
    omega
  refine ⟨h1, ?_⟩
  intro ys_1
  intro n_2
  intro h2 -- ys_1 = d
  intro h3 -- ys_1.length = n_2
  refine ⟨?_, ?_⟩
  · -- left
    refine ⟨(Int.toNat (0 : Int), ys_1), ?_⟩
    refine ⟨by first | with_reducible rfl | rfl, ?_⟩ -- n = n
    refine ⟨by first | with_reducible rfl | rfl, ?_⟩ -- b = b
    refine ⟨by first | with_reducible rfl | rfl, ?_⟩ -- m = m
    refine ⟨by show (0 : Int) = (↑(Int.toNat (0 : Int)) : Int); omega, ?_⟩ -- (0 : Int) = (↑(Int.toNat (0 : Int)) : Int)
    refine ⟨by first | with_reducible rfl | rfl, ?_⟩ -- (0 : Nat) = (0 : Nat)
    have h4 : n_2 = d.length := by
      rw [← h3, h2]
    refine ⟨h4, ?_⟩
    refine ⟨by first | with_reducible rfl | rfl, ?_⟩ -- ys_1 = ys_1
    refine ⟨by show (↑(Int.toNat (0 : Int)) : Int) ≤ m; omega, ?_⟩ -- (↑(Int.toNat (0 : Int)) : Int) ≤ m
    refine ⟨by show ys_1.length = d.length; omega, ?_⟩ -- ys_1.length = d.length
    -- ys_1 = wr d n b (Int.toNat (0 : Int))
    show ys_1 = wr d n b 0
    rw [wr_none, h2]
  intro v_5
  intro h5 -- (↑v_5.fst : Int) ≤ m ∧ v_5.snd.length = d.length ∧ v_5.snd = wr d n b v_5.fst
  refine brd (fun c6 => ?_) (fun c6 => ?_) -- decide ((↑v_5.fst : Int) < m)
  · -- yes
    intro n7
    intro q7 -- n7 = IntKind.i64.wrap (n * (64 : Int))
    rw [IntKind.wrap_i64] at q7
    intro ⟨l7, u7⟩ -- (-9223372036854775808 : Int) ≤ n7 ∧ n7 ≤ (9223372036854775807 : Int)
    intro n10
    intro q10 -- n10 = IntKind.i64.wrap (n7 + (↑v_5.fst : Int))
    rw [IntKind.wrap_i64] at q10
    intro ⟨l10, u10⟩ -- (-9223372036854775808 : Int) ≤ n10 ∧ n10 ≤ (9223372036854775807 : Int)
    refine ⟨by first | omega | (dsimp only; omega), ?_⟩ -- (0 : Int) ≤ (↑v_5.fst : Int)
    refine ⟨by first | omega | (dsimp only; omega), ?_⟩ -- (↑v_5.fst : Int) < (↑b.length : Int)
    intro n13
    intro q13 -- n13 = (↑(b.getD (↑v_5.fst : Int).toNat (0 : UInt8)).toNat : Int)
    intro ⟨l13, u13⟩ -- (0 : Int) ≤ n13 ∧ n13 ≤ (255 : Int)
    refine ⟨by first | omega | (dsimp only; omega), ?_⟩ -- (0 : Int) ≤ n10
    refine ⟨by first | omega | (dsimp only; omega), ?_⟩ -- n10 < (↑d.length : Int)
    refine ⟨by first | omega | (dsimp only; omega), ?_⟩ -- (0 : Nat) + n10.toNat < v_5.snd.length
    intro z16
    intro qz16 -- z16 = v_5.snd.set ((0 : Nat) + n10.toNat) (UInt8.ofNat n13.toNat)
    intro n18
    intro q18 -- n18 = IntKind.i64.wrap ((↑v_5.fst : Int) + (1 : Int))
    rw [IntKind.wrap_i64] at q18
    intro ⟨l18, u18⟩ -- (-9223372036854775808 : Int) ≤ n18 ∧ n18 ≤ (9223372036854775807 : Int)
    refine ⟨(n18.toNat, z16), ?_⟩
    refine ⟨by first | with_reducible rfl | rfl, ?_⟩ -- n = n
    refine ⟨by first | with_reducible rfl | rfl, ?_⟩ -- b = b
    refine ⟨by first | with_reducible rfl | rfl, ?_⟩ -- m = m
    refine ⟨by show n18 = (↑n18.toNat : Int); omega, ?_⟩ -- n18 = (↑n18.toNat : Int)
    refine ⟨by first | with_reducible rfl | rfl, ?_⟩ -- (0 : Nat) = (0 : Nat)
    refine ⟨by first | with_reducible rfl | rfl, ?_⟩ -- d.length = d.length
    refine ⟨by first | with_reducible rfl | rfl, ?_⟩ -- z16 = z16
    refine ⟨?_, ?_⟩
    · -- left
      refine ⟨by show (↑n18.toNat : Int) ≤ m; omega, ?_⟩ -- (↑n18.toNat : Int) ≤ m
      have h7 : z16.length = d.length := by
        rw [qz16, List.length_set]; exact h5.2.1
      refine ⟨h7, ?_⟩
      -- z16 = wr d n b n18.toNat
      rw [qz16, h5.2.2, show 0 + n10.toNat = 64 * n.toNat + v_5.fst by omega, q13, Int.toNat_natCast, Int.toNat_natCast, UInt8.ofNat_toNat, splice_step (by omega) (by omega), show n18.toNat = v_5.fst + 1 by omega]
    exact by show (m - (↑n18.toNat : Int)).toNat < (m - (↑v_5.fst : Int)).toNat; omega -- (m - (↑n18.toNat : Int)).toNat < (m - (↑v_5.fst : Int)).toNat
  · -- no
    -- k (AV.agg [AV.row (0 : Nat) (0 : Nat) (0 : Nat) d.length]) [] [Blk.row (0 : Nat) v_5.snd]
    exact hk _ _ (by rw [h5.2.2, show m.toNat = v_5.fst by omega]) h5.2.1

theorem rputb_ok : Holds Try.prog 32 rputS := by
  refine fn_sound (env := mkEnv N1) (tab_ok N1_ok) Try.func32 Try.call32 fun args k h => ?_
  match args, h with
  | [.agg [.sl 0 d], .int .i64 n, .sl 0 b, .int .i64 m], h => exact ⟨by kernel_rfl, rputLoops d n b m, fun _ _ => none, .cast (by kernel_rfl) (rputb_vc d n b m h.1 k h.2)⟩
theorem N3_ok : TabOk Try.prog N3 := ⟨asked_ok, cloneR_ok, atA_ok, rcheck_ok, rmany_ok, rblock_ok, trivial⟩
set_option maxHeartbeats 2000000 in
theorem bread_vc (d : List UInt8) (n : Int) (hd : d.length ≤ (1000000 : Nat)) (k : AV → List (Option Blk) → List Blk → Prop) (hk : (∀ (e : Int), e = askE d n → e ≠ (0 : Int) → k (AV.tup [AV.nilsl, AV.int IntKind.i64 e]) [] []) ∧ (askE d n = (0 : Int) → ∀ (ys : List UInt8) (q : Nat), ys = rdO d n → ys.length = q → k (AV.tup [AV.row (0 : Nat) (0 : Nat) (0 : Nat) q, AV.int IntKind.i64 (0 : Int)]) [] [Blk.row (0 : Nat) ys])) :
  ∀ (e_1 : Int),
  (e_1 = askE d n) →
  br (e_1 != (0 : Int))
   ((k (AV.tup [AV.nilsl, AV.int IntKind.i64 e_1]) [] []))
   ((
     ((0 : Int) ≤ n) ∧
     ((64 : Int) * n + (64 : Int) ≤ (↑d.length : Int)) ∧
     (d.length ≤ (1000000 : Nat))) ∧
    ((blk d n).length ≤ (1000000 : Nat)) ∧
    (k (AV.tup [AV.row (0 : Nat) (0 : Nat) (0 : Nat) (blk d n).length, AV.int IntKind.i64 (0 : Int)]) [] [Blk.row (0 : Nat) (blk d n)])) := by
  intro e_1
  intro h1 -- e_1 = askE d n
  refine br_intro (fun c2 => ?_) (fun c2 => ?_) -- e_1 != (0 : Int)
  · -- yes
    simp at c2 -- ¬e_1 = (0 : Int)
    -- k (AV.tup [AV.nilsl, AV.int IntKind.i64 e_1]) [] []
    exact hk.1 e_1 h1 c2
  · -- no
    simp at c2 -- e_1 = (0 : Int)
    refine ⟨?_, ?_⟩
    · -- left
      have h3 : (0 : Int) ≤ n := by
        have o := ask_0.1 (h1.symm.trans c2)
        omega
      refine ⟨h3, ?_⟩
      have h4 : (64 : Int) * n + (64 : Int) ≤ (↑d.length : Int) := by
        have o := ask_0.1 (h1.symm.trans c2)
        have := room o.1.2.2 o.2.1 o.2.2
        omega
      refine ⟨h4, ?_⟩
      exact by assumption -- d.length ≤ (1000000 : Nat)
    have h5 : (blk d n).length ≤ (1000000 : Nat) := by
      unfold blk
      rw [List.length_take]
      omega
    refine ⟨h5, ?_⟩
    -- k (AV.tup [AV.row (0 : Nat) (0 : Nat) (0 : Nat) (blk d n).length, AV.int IntKind.i64 (0 : Int)]) [] [Blk.row (0 : Nat) (blk d n)]
    have z := h1.symm.trans c2
    exact hk.2 z _ _ (by unfold rdO; rw [if_pos z]) rfl

theorem bread_ok : Holds Try.prog 10 rdS := by
  refine fn_sound (env := mkEnv N3) (tab_ok N3_ok) Try.func10 Try.call10 fun args k h => ?_
  match args, h with
  | [.agg [.sl 0 d], .int .i64 n], h => exact ⟨by kernel_rfl, fun _ _ => none, fun _ _ => none, .cast (by kernel_rfl) (bread_vc d n h.1 k h.2)⟩
set_option maxHeartbeats 2000000 in
theorem rbread_vc (d : List UInt8) (n : Int) (hd : d.length ≤ (1000000 : Nat)) (k : AV → List (Option Blk) → List Blk → Prop) (hk : (∀ (e : Int), e = askE d n → e ≠ (0 : Int) → k (AV.tup [AV.nilsl, AV.int IntKind.i64 e]) [] []) ∧ (askE d n = (0 : Int) → ∀ (ys : List UInt8) (q : Nat), ys = rdO d n → ys.length = q → k (AV.tup [AV.row (0 : Nat) (0 : Nat) (0 : Nat) q, AV.int IntKind.i64 (0 : Int)]) [] [Blk.row (0 : Nat) ys])) :
  ∀ (e_1 : Int),
  (e_1 = chkE d) →
  br (e_1 != (0 : Int))
   ((k (AV.tup [AV.nilsl, AV.int IntKind.i64 e_1]) [] []))
   (br (decide (n < (0 : Int)))
     ((true = true) ∧
      (k (AV.tup [AV.nilsl, AV.int IntKind.i64 (2 : Int)]) [] []))
     (∀ (m_3 : Int),
      (m_3 = (↑(d.length / (64 : Nat)) : Int)) →
      br (bif false then true else decide (n ≥ m_3))
       ((k (AV.tup [AV.nilsl, AV.int IntKind.i64 (2 : Int)]) [] []))
       ((
         ((0 : Int) ≤ n) ∧
         ((64 : Int) * n + (64 : Int) ≤ (↑d.length : Int)) ∧
         (d.length ≤ (1000000 : Nat))) ∧
        ∀ (ys_5 : List UInt8),
        ∀ (q_6 : Nat),
        (ys_5 = blk d n) →
        (ys_5.length = q_6) →
        (k (AV.tup [AV.row (0 : Nat) (0 : Nat) (0 : Nat) q_6, AV.int IntKind.i64 (0 : Int)]) [] [Blk.row (0 : Nat) ys_5])))) := by
  intro e_1
  intro h1 -- e_1 = chkE d
  refine br_intro (fun c2 => ?_) (fun c2 => ?_) -- e_1 != (0 : Int)
  · -- yes
    simp at c2 -- ¬e_1 = (0 : Int)
    -- k (AV.tup [AV.nilsl, AV.int IntKind.i64 e_1]) [] []
    exact hk.1 e_1 (by rw [h1]; exact (ask_chk (by rw [← h1]; exact c2)).symm) c2
  · -- no
    simp at c2 -- e_1 = (0 : Int)
    refine brd (fun c3 => ?_) (fun c3 => ?_) -- decide (n < (0 : Int))
    · -- yes
      refine ⟨by with_reducible rfl, ?_⟩ -- true = true
      -- k (AV.tup [AV.nilsl, AV.int IntKind.i64 (2 : Int)]) [] []
      have o := chk_0.1 (h1.symm.trans c2)
      refine hk.1 2 ?_ (by decide)
      unfold askE
      rw [if_pos o, if_neg (by omega)]
    · -- no
      intro m_3
      intro h4 -- m_3 = (↑(d.length / (64 : Nat)) : Int)
      refine br_intro (fun c5 => ?_) (fun c5 => ?_) -- bif false then true else decide (n ≥ m_3)
      · -- yes
        simp at c5 -- m_3 ≤ n
        -- k (AV.tup [AV.nilsl, AV.int IntKind.i64 (2 : Int)]) [] []
        have o := chk_0.1 (h1.symm.trans c2)
        refine hk.1 2 ?_ (by decide)
        unfold askE
        rw [if_pos o, if_neg (by omega)]
      · -- no
        simp at c5 -- n < m_3
        refine ⟨?_, ?_⟩
        · -- left
          refine ⟨by first | omega | (dsimp only; omega), ?_⟩ -- (0 : Int) ≤ n
          refine ⟨by first | omega | (dsimp only; omega), ?_⟩ -- (64 : Int) * n + (64 : Int) ≤ (↑d.length : Int)
          exact by assumption -- d.length ≤ (1000000 : Nat)
        intro ys_5
        intro q_6
        intro h6 -- ys_5 = blk d n
        intro h7 -- ys_5.length = q_6
        -- k (AV.tup [AV.row (0 : Nat) (0 : Nat) (0 : Nat) q_6, AV.int IntKind.i64 (0 : Int)]) [] [Blk.row (0 : Nat) ys_5]
        have o := chk_0.1 (h1.symm.trans c2)
        have z : askE d n = 0 := ask_0.2 ⟨o, by omega, by omega⟩
        exact hk.2 z _ _ (by unfold rdO; rw [if_pos z]; exact h6) h7

theorem rbread_ok : Holds Try.prog 19 rdS := by
  refine fn_sound (env := mkEnv N3) (tab_ok N3_ok) Try.func19 Try.call19 fun args k h => ?_
  match args, h with
  | [.agg [.sl 0 d], .int .i64 n], h => exact ⟨by kernel_rfl, fun _ _ => none, fun _ _ => none, .cast (by kernel_rfl) (rbread_vc d n h.1 k h.2)⟩
def N4 : Tab := [(16, checkS), (26, askedS), (27, cloneS), (28, atB)]
theorem N4_ok : TabOk Try.prog N4 := ⟨check_ok, asked_ok, cloneR_ok, atb_ok, trivial⟩
def N5 : Tab := [(22, checkS), (31, raskedS), (17, twinS), (32, rputS)]
theorem N5_ok : TabOk Try.prog N5 := ⟨rcheck_ok, rasked_ok, twin_ok, rputb_ok, trivial⟩
def doS : Eng.Spec := { ro := true, own := [], run := fun args _ k => match args with
  | [.agg [.sl 0 d], .sl 9 l, .int .i64 w, .int .i64 t] => (d.length ≤ 1000000 ∧ l.length ≤ 1000000) ∧ (∀ e : Int, e = doE d l w t → e ≠ 0 → k (.tup [.agg [.nilsl], .int .i64 e]) [] []) ∧ (doE d l w t = 0 → ∀ (ys : List UInt8) (n : Nat), ys = doO d l w t → ys.length = n → k (.tup [.agg [.row 0 0 0 n], .int .i64 0]) [] [.row 0 ys])
  | _ => False }
def doD : Eng.Spec := { ro := true, own := [], run := fun args _ k => match args with
  | [.agg [.sl 0 d], .sl 9 l, .int .i64 w, .int .i64 t] => (d.length ≤ 1000000 ∧ l.length ≤ 1000000) ∧ ∀ (e : Int) (ys : List UInt8) (n : Nat), e = doE d l w t → ys = doO d l w t → ys.length = n → k (.tup [.agg [.row 0 0 0 n], .int .i64 e]) [] [.row 0 ys]
  | _ => False }
theorem do_up {f : FuncId} (hf : Holds Try.prog f doS) : Holds Try.prog f doD := hf.nlAgg 0 0 0 rfl rfl rfl fun args k h => by
  unfold doD at h
  dsimp only at h
  split at h
  · refine ⟨h.1, fun e he hz => h.2 e [] 0 he (by unfold doO; rw [if_neg (by rw [← he]; exact hz)]) rfl, fun hz ys n hy hn => h.2 0 ys n hz.symm hy hn⟩
  · exact h.elim
structure ok0 (d : List UInt8) (l : List Put) (w t : Int) : Prop where
  e : doE d l w t = 0
structure DrE (d : List UInt8) (l : List Put) (i : Nat) (e : Int) : Prop where
  z : e = 0 → dOk d.length ∧ putsE d.length (l.drop i) = putsE d.length l
  n : e ≠ 0 → e = err0 d l
def doLoops (d : List UInt8) (l : List Put) (w t : Int) : List Nat → Nat → Option LoopAnn := fun _ r => match r with
  | 5 => some { V := Nat, st := fun v => ⟨mk 90 [(1, .sl 9 l), (2, .int .i64 w), (3, .int .i64 t), (4, .ptr 1000 0), (8, .ptr 1 0), (9, .ptr 0 0), (19, .sl 9 l), (20, .int .i64 l.length), (21, .int .i64 v)], [], [(0, .cells [.int .i64 0]), (1, .cells [.nilsl]), (1000, .cells [.sl 0 d])]⟩, I := fun v => v ≤ l.length ∧ (d.length ≤ 1000000 ∧ l.length ≤ 1000000) ∧ DrE d l v 0, μ := fun v => l.length - v }
  | 16 => some { V := Nat × List UInt8, st := fun v => ⟨mk 90 [(2, .int .i64 w), (3, .int .i64 t), (8, .ptr 1 0), (9, .ptr 0 0), (58, .sl 9 l), (59, .int .i64 l.length), (60, .int .i64 v.1)], [], [(0, .cells [.int .i64 0]), (1, .cells [.row 0 7777 0 d.length]), (7777, .row 0 v.2)]⟩, I := fun v => v.1 ≤ l.length ∧ (d.length ≤ 1000000 ∧ l.length ≤ 1000000) ∧ ok0 d l w t ∧ v.2.length = d.length ∧ v.2 = doF d l w t v.1, μ := fun v => l.length - v.1, boxes := [(1000800, 7777, 0)] }
  | _ => none
def rdoLoops (d : List UInt8) (l : List Put) (w t : Int) : List Nat → Nat → Option LoopAnn := fun _ r => match r with
  | 3 => some { V := Nat × Int, st := fun v => ⟨mk 96 [(1, .sl 9 l), (2, .int .i64 w), (3, .int .i64 t), (4, .ptr 1000 0), (8, .ptr 1001 0), (10, .int .i64 v.2), (11, .int .i64 v.1)], [], [(1000, .cells [.sl 0 d]), (1001, .cells [.nilsl])]⟩, I := fun v => v.1 ≤ l.length ∧ (d.length ≤ 1000000 ∧ l.length ≤ 1000000) ∧ DrE d l v.1 v.2, μ := fun v => l.length - v.1 }
  | 12 => some { V := Nat × List UInt8, st := fun v => ⟨mk 96 [(1, .sl 9 l), (2, .int .i64 w), (3, .int .i64 t), (8, .ptr 1001 0), (12, .ptr 11002 0), (13, .int .i64 v.1)], [], [(1001, .cells [.nilsl]), (11002, .cells [.row 0 7777 0 d.length]), (7777, .row 0 v.2)]⟩, I := fun v => ((v.1 : Int) ≤ w ∧ w ≤ l.length) ∧ (d.length ≤ 1000000 ∧ l.length ≤ 1000000) ∧ ok0 d l w t ∧ v.2.length = d.length ∧ v.2 = doF d l w t v.1, μ := fun v => (w - v.1).toNat, boxes := [(1001200, 7777, 0)] }
  | _ => none
theorem dr_0 {d : List UInt8} {l : List Put} (h : chkE d = 0) : DrE d l 0 0 := ⟨fun _ => ⟨chk_0.1 h, rfl⟩, fun h => absurd rfl h⟩
theorem do_chk {d : List UInt8} {l : List Put} {w t e : Int} (h : e = chkE d) (hz : ¬ e = 0) : e = doE d l w t := by
  have o : ¬ dOk d.length := fun c => hz (h.trans (chk_0.2 c))
  rw [h]
  unfold chkE doE
  rw [if_neg o, if_neg o]
theorem dr_ask {d : List UInt8} {l : List Put} {i : Nat} {n e : Int} (h : DrE d l i 0) (hi : i < l.length) (hn : n = (l.getD (i : Int).toNat (dflt 9)).n) (he : e = askE d n) (hz : ¬ e = 0) : e = err0 d l := by
  obtain ⟨o, hp⟩ := h.z rfl
  rw [Int.toNat_natCast] at hn
  rw [putsE_step hi, ← hn] at hp
  have c : ¬ (0 ≤ n ∧ n < (d.length / 64 : Nat)) := fun c => hz (he.trans (ask_0.2 ⟨o, c⟩))
  rw [if_neg c] at hp
  unfold err0
  rw [if_pos o, ← hp, he]
  unfold askE
  rw [if_pos o, if_neg c]
theorem dr_len {d : List UInt8} {l : List Put} {i : Nat} {n e : Int} (h : DrE d l i 0) (hi : i < l.length) (hn : n = (l.getD (i : Int).toNat (dflt 9)).n) (he : e = askE d n) (hz : e = 0) (hl : ¬ (l.getD i (dflt 9)).data.length = 64) : (8 : Int) = err0 d l := by
  obtain ⟨o, hp⟩ := h.z rfl
  rw [Int.toNat_natCast] at hn
  rw [putsE_step hi, ← hn, if_pos (ask_0.1 (he.symm.trans hz)).2, if_neg hl] at hp
  unfold err0
  rw [if_pos o, ← hp]
theorem dr_step {d : List UInt8} {l : List Put} {i j : Nat} {n e : Int} (h : DrE d l i 0) (hi : i < l.length) (hn : n = (l.getD (i : Int).toNat (dflt 9)).n) (he : e = askE d n) (hz : e = 0) (hl : (l.getD i (dflt 9)).data.length = 64) (hj : j = i + 1) : DrE d l j 0 := by
  subst hj
  obtain ⟨o, hp⟩ := h.z rfl
  rw [Int.toNat_natCast] at hn
  rw [putsE_step hi, ← hn, if_pos (ask_0.1 (he.symm.trans hz)).2, if_pos hl] at hp
  exact ⟨fun _ => ⟨o, hp⟩, fun h => absurd rfl h⟩
theorem dr_end {d : List UInt8} {l : List Put} {i : Nat} (h : DrE d l i 0) (hi : l.length ≤ i) : err0 d l = 0 := by
  obtain ⟨o, hp⟩ := h.z rfl
  rw [List.drop_of_length_le hi] at hp
  unfold err0
  rw [if_pos o, ← hp]; rfl
theorem do_of {d : List UInt8} {l : List Put} {w t e : Int} (h : e = err0 d l) (hz : e ≠ 0) : e = doE d l w t := by
  rw [do_err (by rw [← h]; exact hz)]; exact h
theorem do_2 {d : List UInt8} {l : List Put} {w t : Int} (h : err0 d l = 0) (hc : w < 0 ∨ (l.length : Int) < w ∨ t < 0 ∨ 64 < t) : (2 : Int) = doE d l w t := by
  rw [do_arg h, if_pos hc]
theorem ok_of {d : List UInt8} {l : List Put} {w t : Int} (h : err0 d l = 0) (hc : ¬ (w < 0 ∨ (l.length : Int) < w ∨ t < 0 ∨ 64 < t)) : ok0 d l w t := ⟨by rw [do_arg h, if_neg hc]⟩
theorem bk_room {d : List UInt8} {l : List Put} {w t n : Int} {i : Nat} (h : ok0 d l w t) (hi : i < l.length) (hn : n = (l.getD (i : Int).toNat (dflt 9)).n) : 0 ≤ n ∧ 64 * n + 64 ≤ d.length ∧ (l.getD i (dflt 9)).data.length = 64 := by
  obtain ⟨h1, h2, h3, h4⟩ := doE_0.1 h.e
  rw [Int.toNat_natCast] at hn
  obtain ⟨⟨p1, p2⟩, p3⟩ := h2 _ (get_mem hi)
  rw [← hn] at p1 p2
  have := room h1.2.2 p1 p2
  exact ⟨p1, by omega, p3⟩
theorem bk_z {ys data src z : List UInt8} {n : Int} {o m : Nat} (ho : o = 64 * n.toNat) (hs : src = data.take m) (hm : m ≤ 64) (hd : data.length = 64) (hz : z = List.take o ys ++ List.take (Nat.min src.length 64) src ++ List.drop (o + Nat.min src.length 64) ys) : z = wr ys n data m := by
  have e : src.length = m := by rw [hs, List.length_take]; omega
  have e2 : Nat.min m 64 = m := Nat.min_eq_left hm
  rw [hz, e, e2, ho, hs, List.take_take, Nat.min_self]
  rfl
theorem bk_1 {d ys z : List UInt8} {l : List Put} {w t n : Int} {i o : Nat} (h : ok0 d l w t) (hi : i < l.length) (hl : ys.length = d.length) (hy : ys = doF d l w t i) (hw : (i : Int) < w) (hn : n = (l.getD (i : Int).toNat (dflt 9)).n) (ho : o = 64 * n.toNat)
    (hz : z = List.take o ys ++ List.take (Nat.min (l.getD (i : Int).toNat (dflt 9)).data.length 64) (l.getD (i : Int).toNat (dflt 9)).data ++ List.drop (o + Nat.min (l.getD (i : Int).toNat (dflt 9)).data.length 64) ys) : z = doF d l w t (i + 1) ∧ z.length = d.length := by
  obtain ⟨r1, r2, r3⟩ := bk_room h hi hn
  rw [Int.toNat_natCast] at hn hz
  have e := bk_z ho (m := 64) (List.take_of_length_le (by omega)).symm (by omega) r3 hz
  have f : z = doF d l w t (i + 1) := by
    rw [doF, if_pos hw, ← hy, ← hn]; exact e
  exact ⟨f, by rw [e, wr_len (by omega) (by omega)]; exact hl⟩
theorem bk_2 {d ys z : List UInt8} {l : List Put} {w t n : Int} {i o : Nat} (h : ok0 d l w t) (hi : i < l.length) (hl : ys.length = d.length) (hy : ys = doF d l w t i) (hw : (i : Int) = w) (hn : n = (l.getD (i : Int).toNat (dflt 9)).n) (ho : o = 64 * n.toNat)
    (hz : z = List.take o ys ++ List.take (Nat.min (List.take t.toNat (l.getD (i : Int).toNat (dflt 9)).data).length 64) (List.take t.toNat (l.getD (i : Int).toNat (dflt 9)).data) ++ List.drop (o + Nat.min (List.take t.toNat (l.getD (i : Int).toNat (dflt 9)).data).length 64) ys) : z = doF d l w t (i + 1) ∧ z.length = d.length := by
  obtain ⟨r1, r2, r3⟩ := bk_room h hi hn
  obtain ⟨h1, h2, h3, h4⟩ := doE_0.1 h.e
  rw [Int.toNat_natCast] at hn hz
  have e := bk_z ho (m := t.toNat) rfl (by omega) r3 hz
  have f : z = doF d l w t (i + 1) := by
    rw [doF, if_neg (by omega), if_pos hw, ← hy, ← hn]; exact e
  exact ⟨f, by rw [e, wr_len (by omega) (by omega)]; exact hl⟩
theorem bk_3 {d ys : List UInt8} {l : List Put} {w t : Int} {i : Nat} (hy : ys = doF d l w t i) (h1 : ¬ (i : Int) < w) (h2 : ¬ (i : Int) = w) : ys = doF d l w t (i + 1) := by
  rw [doF, if_neg h1, if_neg h2]; exact hy
theorem bk_end {d ys : List UInt8} {l : List Put} {w t : Int} {i : Nat} (h : ok0 d l w t) (hy : ys = doF d l w t i) (hi : i = l.length) : ys = doO d l w t := by
  unfold doO
  rw [if_pos h.e, hy, hi]
end Go.Proofs.Ytiekaipompepdaa

