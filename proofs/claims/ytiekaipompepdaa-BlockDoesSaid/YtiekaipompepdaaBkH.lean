import Derived.Test.YtiekaipompepdaaBkG
namespace Go.Proofs.Ytiekaipompepdaa
open Go Go.Eng Go.Bk Go.Proofs
set_option linter.unusedVariables false
set_option maxHeartbeats 2000000 in
theorem bwrite_vc (d : List UInt8) (n : Int) (b : List UInt8) (hd : d.length ≤ (1000000 : Nat)) (k : AV → List (Option Blk) → List Blk → Prop) (hk : ∀ (e : Int) (ys : List UInt8) (q : Nat), e = doE d [{ n := n, data := b : Put }] (1 : Int) (0 : Int) → ys = doO d [{ n := n, data := b : Put }] (1 : Int) (0 : Int) → ys.length = q → k (AV.tup [AV.agg [AV.row (0 : Nat) (0 : Nat) (0 : Nat) q], AV.int IntKind.i64 e]) [] [Blk.row (0 : Nat) ys]) :
  (
   (d.length ≤ (1000000 : Nat)) ∧
   ((List.take (1 : Nat) (List.drop (0 : Nat) [{ n := n, data := b : Put }])).length ≤ (1000000 : Nat))) ∧
  ∀ (e_1 : Int),
  ∀ (ys_2 : List UInt8),
  ∀ (n_3 : Nat),
  (e_1 = doE d (List.take (1 : Nat) (List.drop (0 : Nat) [{ n := n, data := b : Put }])) (1 : Int) (0 : Int)) →
  (ys_2 = doO d (List.take (1 : Nat) (List.drop (0 : Nat) [{ n := n, data := b : Put }])) (1 : Int) (0 : Int)) →
  (ys_2.length = n_3) →
  (k (AV.tup [AV.agg [AV.row (0 : Nat) (0 : Nat) (0 : Nat) n_3], AV.int IntKind.i64 e_1]) [] [Blk.row (0 : Nat) ys_2]) := by
  refine ⟨?_, ?_⟩
  · -- left
    refine ⟨by assumption, ?_⟩ -- d.length ≤ (1000000 : Nat)
    -- (List.take (1 : Nat) (List.drop (0 : Nat) [{ n := n, data := b : Put }])).length ≤ (1000000 : Nat)
    simp
  intro e_1
  intro ys_2
  intro n_3
  intro h1 -- e_1 = doE d (List.take (1 : Nat) (List.drop (0 : Nat) [{ n := n, data := b : Put }])) (1 : Int) (0 : Int)
  intro h2 -- ys_2 = doO d (List.take (1 : Nat) (List.drop (0 : Nat) [{ n := n, data := b : Put }])) (1 : Int) (0 : Int)
  intro h3 -- ys_2.length = n_3
  -- k (AV.tup [AV.agg [AV.row (0 : Nat) (0 : Nat) (0 : Nat) n_3], AV.int IntKind.i64 e_1]) [] [Blk.row (0 : Nat) ys_2]
  exact hk _ _ _ h1 h2 h3

theorem bwrite_ok : Holds Try.prog 11 writeD := by
  refine fn_sound (env := mkEnv N6) (tab_ok N6_ok) Try.func11 Try.call11 fun args k h => ?_
  match args, h with
  | [.agg [.sl 0 d], .int .i64 n, .sl 0 b], h => exact ⟨by kernel_rfl, fun _ _ => none, fun _ _ => none, .cast (by kernel_rfl) (bwrite_vc d n b h.1 k h.2)⟩
set_option maxHeartbeats 2000000 in
theorem rbwrite_vc (d : List UInt8) (n : Int) (b : List UInt8) (hd : d.length ≤ (1000000 : Nat)) (k : AV → List (Option Blk) → List Blk → Prop) (hk : (∀ (e : Int), e = doE d [{ n := n, data := b : Put }] (1 : Int) (0 : Int) → e ≠ (0 : Int) → k (AV.tup [AV.agg [AV.nilsl], AV.int IntKind.i64 e]) [] []) ∧ (doE d [{ n := n, data := b : Put }] (1 : Int) (0 : Int) = (0 : Int) → ∀ (ys : List UInt8) (q : Nat), ys = doO d [{ n := n, data := b : Put }] (1 : Int) (0 : Int) → ys.length = q → k (AV.tup [AV.agg [AV.row (0 : Nat) (0 : Nat) (0 : Nat) q], AV.int IntKind.i64 (0 : Int)]) [] [Blk.row (0 : Nat) ys])) :
  ∀ (e_1 : Int),
  (e_1 = chkE d) →
  br (e_1 == (0 : Int))
   (∀ (e_3 : Int),
    (e_3 = raskE d.length n b) →
    br (e_3 != (0 : Int))
     ((k (AV.tup [AV.agg [AV.nilsl], AV.int IntKind.i64 e_3]) [] []))
     ((
       (
        ((64 : Nat) ≤ d.length) ∧
        (d.length ≤ (4096 : Nat)) ∧
        (d.length % (64 : Nat) = (0 : Nat))) ∧
       (
        ((0 : Int) ≤ n) ∧
        ((64 : Int) * n + (64 : Int) ≤ (↑d.length : Int))) ∧
       (b.length = (64 : Nat)) ∧
       ((0 : Int) ≤ (64 : Int)) ∧
       ((64 : Int) ≤ (64 : Int))) ∧
      ∀ (ys_5 : List UInt8),
      ∀ (q_6 : Nat),
      (ys_5 = wr d n b (Int.toNat (64 : Int))) →
      (ys_5.length = q_6) →
      (k (AV.tup [AV.agg [AV.row (0 : Nat) (0 : Nat) (0 : Nat) q_6], AV.int IntKind.i64 (0 : Int)]) [] [Blk.row (0 : Nat) ys_5])))
   (br (e_1 != (0 : Int))
     ((k (AV.tup [AV.agg [AV.nilsl], AV.int IntKind.i64 e_1]) [] []))
     ((
       (
        ((64 : Nat) ≤ d.length) ∧
        (d.length ≤ (4096 : Nat)) ∧
        (d.length % (64 : Nat) = (0 : Nat))) ∧
       (
        ((0 : Int) ≤ n) ∧
        ((64 : Int) * n + (64 : Int) ≤ (↑d.length : Int))) ∧
       (b.length = (64 : Nat)) ∧
       ((0 : Int) ≤ (64 : Int)) ∧
       ((64 : Int) ≤ (64 : Int))) ∧
      ∀ (ys_9 : List UInt8),
      ∀ (q_10 : Nat),
      (ys_9 = wr d n b (Int.toNat (64 : Int))) →
      (ys_9.length = q_10) →
      (k (AV.tup [AV.agg [AV.row (0 : Nat) (0 : Nat) (0 : Nat) q_10], AV.int IntKind.i64 (0 : Int)]) [] [Blk.row (0 : Nat) ys_9]))) := by
  intro e_1
  intro h1 -- e_1 = chkE d
  refine br_intro (fun c2 => ?_) (fun c2 => ?_) -- e_1 == (0 : Int)
  · -- yes
    simp at c2 -- e_1 = (0 : Int)
    intro e_3
    intro h3 -- e_3 = raskE d.length n b
    refine br_intro (fun c4 => ?_) (fun c4 => ?_) -- e_3 != (0 : Int)
    · -- yes
      simp at c4 -- ¬e_3 = (0 : Int)
      -- k (AV.tup [AV.agg [AV.nilsl], AV.int IntKind.i64 e_3]) [] []
      have o := chk_0.1 (h1.symm.trans c2)
      have E : doE d [⟨n, b⟩] 1 0 = raskE d.length n b := by rw [one_E, if_pos o]
      exact hk.1 e_3 (by rw [E]; exact h3) c4
    · -- no
      simp at c4 -- e_3 = (0 : Int)
      refine ⟨?_, ?_⟩
      · -- left
        refine ⟨?_, ?_⟩
        · -- left
          have h5 : (64 : Nat) ≤ d.length := by
            have o := chk_0.1 (h1.symm.trans c2)
            exact o.1
          refine ⟨h5, ?_⟩
          have h6 : d.length ≤ (4096 : Nat) := by
            have o := chk_0.1 (h1.symm.trans c2)
            exact o.2.1
          refine ⟨h6, ?_⟩
          -- d.length % (64 : Nat) = (0 : Nat)
          have o := chk_0.1 (h1.symm.trans c2)
          exact o.2.2
        refine ⟨?_, ?_⟩
        · -- left
          have h7 : (0 : Int) ≤ n := by
            have o := chk_0.1 (h1.symm.trans c2)
            have rk := h3.symm.trans c4
            unfold raskE at rk
            split at rk
            case isFalse => exact absurd rk (by decide)
            rename_i r1
            split at rk
            case isFalse => exact absurd rk (by decide)
            rename_i r2
            exact r1.1
          refine ⟨h7, ?_⟩
          -- (64 : Int) * n + (64 : Int) ≤ (↑d.length : Int)
          have o := chk_0.1 (h1.symm.trans c2)
          have rk := h3.symm.trans c4
          unfold raskE at rk
          split at rk
          case isFalse => exact absurd rk (by decide)
          rename_i r1
          split at rk
          case isFalse => exact absurd rk (by decide)
          rename_i r2
          have := room o.2.2 r1.1 r1.2
          omega
        have h8 : b.length = (64 : Nat) := by
          have o := chk_0.1 (h1.symm.trans c2)
          have rk := h3.symm.trans c4
          unfold raskE at rk
          split at rk
          case isFalse => exact absurd rk (by decide)
          rename_i r1
          split at rk
          case isFalse => exact absurd rk (by decide)
          rename_i r2
          exact r2
        refine ⟨h8, ?_⟩
        refine ⟨by first | omega | (dsimp only; omega), ?_⟩ -- (0 : Int) ≤ (64 : Int)
        exact by omega -- (64 : Int) ≤ (64 : Int)
      intro ys_5
      intro q_6
      intro h9 -- ys_5 = wr d n b (Int.toNat (64 : Int))
      intro h10 -- ys_5.length = q_6
      -- k (AV.tup [AV.agg [AV.row (0 : Nat) (0 : Nat) (0 : Nat) q_6], AV.int IntKind.i64 (0 : Int)]) [] [Blk.row (0 : Nat) ys_5]
      have o := chk_0.1 (h1.symm.trans c2)
      have E : doE d [⟨n, b⟩] 1 0 = raskE d.length n b := by rw [one_E, if_pos o]
      have z : doE d [⟨n, b⟩] 1 0 = 0 := by rw [E]; exact h3.symm.trans c4
      exact hk.2 z _ _ (by rw [one_O z]; exact h9) h10
  · -- no
    simp at c2 -- ¬e_1 = (0 : Int)
    refine br_intro (fun c11 => ?_) (fun c11 => ?_) -- e_1 != (0 : Int)
    · -- yes
      simp at c11 -- ¬e_1 = (0 : Int)
      -- k (AV.tup [AV.agg [AV.nilsl], AV.int IntKind.i64 e_1]) [] []
      exact hk.1 e_1 (do_chk h1 c2) c2
    · -- no
      simp at c11 -- e_1 = (0 : Int)
      exfalso; omega

theorem rbwrite_ok : Holds Try.prog 20 writeS := by
  refine fn_sound (env := mkEnv N5) (tab_ok N5_ok) Try.func20 Try.call20 fun args k h => ?_
  match args, h with
  | [.agg [.sl 0 d], .int .i64 n, .sl 0 b], h => exact ⟨by kernel_rfl, fun _ _ => none, fun _ _ => none, .cast (by kernel_rfl) (rbwrite_vc d n b h.1 k h.2)⟩
set_option maxHeartbeats 2000000 in
theorem alive_vc (k : AV → List (Option Blk) → List Blk → Prop) (hk : k (AV.bool true) [] []) :
  ∀ (e_1 : Int),
  ∀ (ys_2 : List UInt8),
  ∀ (q_3 : Nat),
  (e_1 = newE (2 : Int)) →
  (ys_2 = newO (2 : Int)) →
  (ys_2.length = q_3) →
  (
   (
    ((0 : Int) ≤ (1 : Int)) ∧
    ((1 : Int) ≤ (255 : Int))) ∧
   ∀ (ys_7 : List UInt8),
   ∀ (q_8 : Nat),
   (ys_7 = List.replicate (64 : Nat) (UInt8.ofNat (Int.toNat (1 : Int)))) →
   (ys_7.length = q_8) →
   (
    (
     ((0 : Int) ≤ (1 : Int)) ∧
     ((1 : Int) ≤ (255 : Int))) ∧
    ∀ (ys_11 : List UInt8),
    ∀ (q_12 : Nat),
    (ys_11 = List.replicate (64 : Nat) (UInt8.ofNat (Int.toNat (1 : Int)))) →
    (ys_11.length = q_12) →
    (
     (
      (
       ((List.take q_3 (List.drop (0 : Nat) ys_2)).length ≤ (1000000 : Nat)) ∧
       ((List.take (2 : Nat) (List.drop (0 : Nat) [{ n := (0 : Int), data := List.take q_8 (List.drop (0 : Nat) ys_7) : Put }, { n := (1 : Int), data := List.take q_12 (List.drop (0 : Nat) ys_11) : Put }])).length ≤ (1000000 : Nat))) ∧
      ∀ (e_15 : Int),
      ∀ (ys_16 : List UInt8),
      ∀ (n_17 : Nat),
      (e_15 = doE (List.take q_3 (List.drop (0 : Nat) ys_2)) (List.take (2 : Nat) (List.drop (0 : Nat) [{ n := (0 : Int), data := List.take q_8 (List.drop (0 : Nat) ys_7) : Put }, { n := (1 : Int), data := List.take q_12 (List.drop (0 : Nat) ys_11) : Put }])) (1 : Int) (2 : Int)) →
      (ys_16 = doO (List.take q_3 (List.drop (0 : Nat) ys_2)) (List.take (2 : Nat) (List.drop (0 : Nat) [{ n := (0 : Int), data := List.take q_8 (List.drop (0 : Nat) ys_7) : Put }, { n := (1 : Int), data := List.take q_12 (List.drop (0 : Nat) ys_11) : Put }])) (1 : Int) (2 : Int)) →
      (ys_16.length = n_17) →
      ((List.take n_17 (List.drop (0 : Nat) ys_16)).length ≤ (1000000 : Nat)) ∧
      ∀ (e_21 : Int),
      ∀ (ys_22 : List UInt8),
      ∀ (q_23 : Nat),
      (e_21 = askE (List.take n_17 (List.drop (0 : Nat) ys_16)) (0 : Int)) →
      (ys_22 = rdO (List.take n_17 (List.drop (0 : Nat) ys_16)) (0 : Int)) →
      (ys_22.length = q_23) →
      ((List.take n_17 (List.drop (0 : Nat) ys_16)).length ≤ (1000000 : Nat)) ∧
      ∀ (e_27 : Int),
      ∀ (ys_28 : List UInt8),
      ∀ (q_29 : Nat),
      (e_27 = askE (List.take n_17 (List.drop (0 : Nat) ys_16)) (1 : Int)) →
      (ys_28 = rdO (List.take n_17 (List.drop (0 : Nat) ys_16)) (1 : Int)) →
      (ys_28.length = q_29) →
      br (bif bif bif e_1 == (0 : Int) then e_15 == (0 : Int) else false then e_21 == (0 : Int) else false then e_27 == (0 : Int) else false)
       ((
         ((0 : Int) ≤ (1 : Int)) ∧
         ((1 : Int) ≤ (255 : Int))) ∧
        ∀ (ys_33 : List UInt8),
        ∀ (q_34 : Nat),
        (ys_33 = List.replicate (64 : Nat) (UInt8.ofNat (Int.toNat (1 : Int)))) →
        (ys_33.length = q_34) →
        ∀ (n37 : Int),
        (n37 = (↑q_29 : Int)) →
        (
         ((bif bif true then { data := (List.take q_23 (List.drop (0 : Nat) ys_22)).toArray : ByteArray }.data.toList == { data := (List.take q_34 (List.drop (0 : Nat) ys_33)).toArray : ByteArray }.data.toList else false then n37 == (64 : Int) else false) = true) →
         ((0 : Int) ≤ (1 : Int)) ∧
         ((1 : Int) < (↑q_29 : Int))) ∧
        (
         ((bif bif true then { data := (List.take q_23 (List.drop (0 : Nat) ys_22)).toArray : ByteArray }.data.toList == { data := (List.take q_34 (List.drop (0 : Nat) ys_33)).toArray : ByteArray }.data.toList else false then n37 == (64 : Int) else false) = true) →
         ((0 : Nat) + Int.toNat (1 : Int) < ys_28.length)) ∧
        ∀ (n41 : Int),
        (n41 = (↑(ys_28.getD ((0 : Nat) + Int.toNat (1 : Int)) (0 : UInt8)).toNat : Int)) →
        (
         ((bif bif bif true then { data := (List.take q_23 (List.drop (0 : Nat) ys_22)).toArray : ByteArray }.data.toList == { data := (List.take q_34 (List.drop (0 : Nat) ys_33)).toArray : ByteArray }.data.toList else false then n37 == (64 : Int) else false then n41 == (1 : Int) else false) = true) →
         ((0 : Int) ≤ (2 : Int)) ∧
         ((2 : Int) < (↑q_29 : Int))) ∧
        (
         ((bif bif bif true then { data := (List.take q_23 (List.drop (0 : Nat) ys_22)).toArray : ByteArray }.data.toList == { data := (List.take q_34 (List.drop (0 : Nat) ys_33)).toArray : ByteArray }.data.toList else false then n37 == (64 : Int) else false then n41 == (1 : Int) else false) = true) →
         ((0 : Nat) + Int.toNat (2 : Int) < ys_28.length)) ∧
        ∀ (n45 : Int),
        (n45 = (↑(ys_28.getD ((0 : Nat) + Int.toNat (2 : Int)) (0 : UInt8)).toNat : Int)) →
        (k (AV.bool (bif bif bif bif true then { data := (List.take q_23 (List.drop (0 : Nat) ys_22)).toArray : ByteArray }.data.toList == { data := (List.take q_34 (List.drop (0 : Nat) ys_33)).toArray : ByteArray }.data.toList else false then n37 == (64 : Int) else false then n41 == (1 : Int) else false then n45 == (0 : Int) else false)) [] []))
       ((false = false) ∧
        ∀ (n47 : Int),
        (n47 = (↑q_29 : Int)) →
        (
         ((bif false then n47 == (64 : Int) else false) = true) →
         ((0 : Int) ≤ (1 : Int)) ∧
         ((1 : Int) < (↑q_29 : Int))) ∧
        (
         ((bif false then n47 == (64 : Int) else false) = true) →
         ((0 : Nat) + Int.toNat (1 : Int) < ys_28.length)) ∧
        ∀ (n51 : Int),
        (n51 = (↑(ys_28.getD ((0 : Nat) + Int.toNat (1 : Int)) (0 : UInt8)).toNat : Int)) →
        (
         ((bif bif false then n47 == (64 : Int) else false then n51 == (1 : Int) else false) = true) →
         ((0 : Int) ≤ (2 : Int)) ∧
         ((2 : Int) < (↑q_29 : Int))) ∧
        (
         ((bif bif false then n47 == (64 : Int) else false then n51 == (1 : Int) else false) = true) →
         ((0 : Nat) + Int.toNat (2 : Int) < ys_28.length)) ∧
        ∀ (n55 : Int),
        (n55 = (↑(ys_28.getD ((0 : Nat) + Int.toNat (2 : Int)) (0 : UInt8)).toNat : Int)) →
        (k (AV.bool (bif bif bif false then n47 == (64 : Int) else false then n51 == (1 : Int) else false then n55 == (0 : Int) else false)) [] []))) ∧
     (
      ((List.take q_3 (List.drop (0 : Nat) ys_2)).length ≤ (1000000 : Nat)) ∧
      ((List.take (2 : Nat) (List.drop (0 : Nat) [{ n := (0 : Int), data := List.take q_8 (List.drop (0 : Nat) ys_7) : Put }, { n := (1 : Int), data := List.take q_12 (List.drop (0 : Nat) ys_11) : Put }])).length ≤ (1000000 : Nat))) ∧
     ∀ (e_57 : Int),
     ∀ (ys_58 : List UInt8),
     ∀ (n_59 : Nat),
     (e_57 = doE (List.take q_3 (List.drop (0 : Nat) ys_2)) (List.take (2 : Nat) (List.drop (0 : Nat) [{ n := (0 : Int), data := List.take q_8 (List.drop (0 : Nat) ys_7) : Put }, { n := (1 : Int), data := List.take q_12 (List.drop (0 : Nat) ys_11) : Put }])) (1 : Int) (2 : Int)) →
     (ys_58 = doO (List.take q_3 (List.drop (0 : Nat) ys_2)) (List.take (2 : Nat) (List.drop (0 : Nat) [{ n := (0 : Int), data := List.take q_8 (List.drop (0 : Nat) ys_7) : Put }, { n := (1 : Int), data := List.take q_12 (List.drop (0 : Nat) ys_11) : Put }])) (1 : Int) (2 : Int)) →
     (ys_58.length = n_59) →
     ((List.take n_59 (List.drop (0 : Nat) ys_58)).length ≤ (1000000 : Nat)) ∧
     ∀ (e_63 : Int),
     ∀ (ys_64 : List UInt8),
     ∀ (q_65 : Nat),
     (e_63 = askE (List.take n_59 (List.drop (0 : Nat) ys_58)) (0 : Int)) →
     (ys_64 = rdO (List.take n_59 (List.drop (0 : Nat) ys_58)) (0 : Int)) →
     (ys_64.length = q_65) →
     ((List.take n_59 (List.drop (0 : Nat) ys_58)).length ≤ (1000000 : Nat)) ∧
     ∀ (e_69 : Int),
     ∀ (ys_70 : List UInt8),
     ∀ (q_71 : Nat),
     (e_69 = askE (List.take n_59 (List.drop (0 : Nat) ys_58)) (1 : Int)) →
     (ys_70 = rdO (List.take n_59 (List.drop (0 : Nat) ys_58)) (1 : Int)) →
     (ys_70.length = q_71) →
     br (bif bif bif e_1 == (0 : Int) then e_57 == (0 : Int) else false then e_63 == (0 : Int) else false then e_69 == (0 : Int) else false)
      ((
        ((0 : Int) ≤ (1 : Int)) ∧
        ((1 : Int) ≤ (255 : Int))) ∧
       ∀ (ys_75 : List UInt8),
       ∀ (q_76 : Nat),
       (ys_75 = List.replicate (64 : Nat) (UInt8.ofNat (Int.toNat (1 : Int)))) →
       (ys_75.length = q_76) →
       ∀ (n79 : Int),
       (n79 = (↑q_71 : Int)) →
       (
        ((bif bif true then { data := (List.take q_65 (List.drop (0 : Nat) ys_64)).toArray : ByteArray }.data.toList == { data := (List.take q_76 (List.drop (0 : Nat) ys_75)).toArray : ByteArray }.data.toList else false then n79 == (64 : Int) else false) = true) →
        ((0 : Int) ≤ (1 : Int)) ∧
        ((1 : Int) < (↑q_71 : Int))) ∧
       (
        ((bif bif true then { data := (List.take q_65 (List.drop (0 : Nat) ys_64)).toArray : ByteArray }.data.toList == { data := (List.take q_76 (List.drop (0 : Nat) ys_75)).toArray : ByteArray }.data.toList else false then n79 == (64 : Int) else false) = true) →
        ((0 : Nat) + Int.toNat (1 : Int) < ys_70.length)) ∧
       ∀ (n83 : Int),
       (n83 = (↑(ys_70.getD ((0 : Nat) + Int.toNat (1 : Int)) (0 : UInt8)).toNat : Int)) →
       (
        ((bif bif bif true then { data := (List.take q_65 (List.drop (0 : Nat) ys_64)).toArray : ByteArray }.data.toList == { data := (List.take q_76 (List.drop (0 : Nat) ys_75)).toArray : ByteArray }.data.toList else false then n79 == (64 : Int) else false then n83 == (1 : Int) else false) = true) →
        ((0 : Int) ≤ (2 : Int)) ∧
        ((2 : Int) < (↑q_71 : Int))) ∧
       (
        ((bif bif bif true then { data := (List.take q_65 (List.drop (0 : Nat) ys_64)).toArray : ByteArray }.data.toList == { data := (List.take q_76 (List.drop (0 : Nat) ys_75)).toArray : ByteArray }.data.toList else false then n79 == (64 : Int) else false then n83 == (1 : Int) else false) = true) →
        ((0 : Nat) + Int.toNat (2 : Int) < ys_70.length)) ∧
       ∀ (n87 : Int),
       (n87 = (↑(ys_70.getD ((0 : Nat) + Int.toNat (2 : Int)) (0 : UInt8)).toNat : Int)) →
       (k (AV.bool (bif bif bif bif true then { data := (List.take q_65 (List.drop (0 : Nat) ys_64)).toArray : ByteArray }.data.toList == { data := (List.take q_76 (List.drop (0 : Nat) ys_75)).toArray : ByteArray }.data.toList else false then n79 == (64 : Int) else false then n83 == (1 : Int) else false then n87 == (0 : Int) else false)) [] []))
      ((false = false) ∧
       ∀ (n89 : Int),
       (n89 = (↑q_71 : Int)) →
       (
        ((bif false then n89 == (64 : Int) else false) = true) →
        ((0 : Int) ≤ (1 : Int)) ∧
        ((1 : Int) < (↑q_71 : Int))) ∧
       (
        ((bif false then n89 == (64 : Int) else false) = true) →
        ((0 : Nat) + Int.toNat (1 : Int) < ys_70.length)) ∧
       ∀ (n93 : Int),
       (n93 = (↑(ys_70.getD ((0 : Nat) + Int.toNat (1 : Int)) (0 : UInt8)).toNat : Int)) →
       (
        ((bif bif false then n89 == (64 : Int) else false then n93 == (1 : Int) else false) = true) →
        ((0 : Int) ≤ (2 : Int)) ∧
        ((2 : Int) < (↑q_71 : Int))) ∧
       (
        ((bif bif false then n89 == (64 : Int) else false then n93 == (1 : Int) else false) = true) →
        ((0 : Nat) + Int.toNat (2 : Int) < ys_70.length)) ∧
       ∀ (n97 : Int),
       (n97 = (↑(ys_70.getD ((0 : Nat) + Int.toNat (2 : Int)) (0 : UInt8)).toNat : Int)) →
       (k (AV.bool (bif bif bif false then n89 == (64 : Int) else false then n93 == (1 : Int) else false then n97 == (0 : Int) else false)) [] []))) ∧
    (
     ((List.take q_3 (List.drop (0 : Nat) ys_2)).length ≤ (1000000 : Nat)) ∧
     ((List.take (2 : Nat) (List.drop (0 : Nat) [{ n := (0 : Int), data := List.take q_8 (List.drop (0 : Nat) ys_7) : Put }, { n := (1 : Int), data := List.take q_12 (List.drop (0 : Nat) ys_11) : Put }])).length ≤ (1000000 : Nat))) ∧
    ∀ (e_99 : Int),
    ∀ (ys_100 : List UInt8),
    ∀ (n_101 : Nat),
    (e_99 = doE (List.take q_3 (List.drop (0 : Nat) ys_2)) (List.take (2 : Nat) (List.drop (0 : Nat) [{ n := (0 : Int), data := List.take q_8 (List.drop (0 : Nat) ys_7) : Put }, { n := (1 : Int), data := List.take q_12 (List.drop (0 : Nat) ys_11) : Put }])) (1 : Int) (2 : Int)) →
    (ys_100 = doO (List.take q_3 (List.drop (0 : Nat) ys_2)) (List.take (2 : Nat) (List.drop (0 : Nat) [{ n := (0 : Int), data := List.take q_8 (List.drop (0 : Nat) ys_7) : Put }, { n := (1 : Int), data := List.take q_12 (List.drop (0 : Nat) ys_11) : Put }])) (1 : Int) (2 : Int)) →
    (ys_100.length = n_101) →
    ((List.take n_101 (List.drop (0 : Nat) ys_100)).length ≤ (1000000 : Nat)) ∧
    ∀ (e_105 : Int),
    ∀ (ys_106 : List UInt8),
    ∀ (q_107 : Nat),
    (e_105 = askE (List.take n_101 (List.drop (0 : Nat) ys_100)) (0 : Int)) →
    (ys_106 = rdO (List.take n_101 (List.drop (0 : Nat) ys_100)) (0 : Int)) →
    (ys_106.length = q_107) →
    ((List.take n_101 (List.drop (0 : Nat) ys_100)).length ≤ (1000000 : Nat)) ∧
    ∀ (e_111 : Int),
    ∀ (ys_112 : List UInt8),
    ∀ (q_113 : Nat),
    (e_111 = askE (List.take n_101 (List.drop (0 : Nat) ys_100)) (1 : Int)) →
    (ys_112 = rdO (List.take n_101 (List.drop (0 : Nat) ys_100)) (1 : Int)) →
    (ys_112.length = q_113) →
    br (bif bif bif e_1 == (0 : Int) then e_99 == (0 : Int) else false then e_105 == (0 : Int) else false then e_111 == (0 : Int) else false)
     ((
       ((0 : Int) ≤ (1 : Int)) ∧
       ((1 : Int) ≤ (255 : Int))) ∧
      ∀ (ys_117 : List UInt8),
      ∀ (q_118 : Nat),
      (ys_117 = List.replicate (64 : Nat) (UInt8.ofNat (Int.toNat (1 : Int)))) →
      (ys_117.length = q_118) →
      ∀ (n121 : Int),
      (n121 = (↑q_113 : Int)) →
      (
       ((bif bif true then { data := (List.take q_107 (List.drop (0 : Nat) ys_106)).toArray : ByteArray }.data.toList == { data := (List.take q_118 (List.drop (0 : Nat) ys_117)).toArray : ByteArray }.data.toList else false then n121 == (64 : Int) else false) = true) →
       ((0 : Int) ≤ (1 : Int)) ∧
       ((1 : Int) < (↑q_113 : Int))) ∧
      (
       ((bif bif true then { data := (List.take q_107 (List.drop (0 : Nat) ys_106)).toArray : ByteArray }.data.toList == { data := (List.take q_118 (List.drop (0 : Nat) ys_117)).toArray : ByteArray }.data.toList else false then n121 == (64 : Int) else false) = true) →
       ((0 : Nat) + Int.toNat (1 : Int) < ys_112.length)) ∧
      ∀ (n125 : Int),
      (n125 = (↑(ys_112.getD ((0 : Nat) + Int.toNat (1 : Int)) (0 : UInt8)).toNat : Int)) →
      (
       ((bif bif bif true then { data := (List.take q_107 (List.drop (0 : Nat) ys_106)).toArray : ByteArray }.data.toList == { data := (List.take q_118 (List.drop (0 : Nat) ys_117)).toArray : ByteArray }.data.toList else false then n121 == (64 : Int) else false then n125 == (1 : Int) else false) = true) →
       ((0 : Int) ≤ (2 : Int)) ∧
       ((2 : Int) < (↑q_113 : Int))) ∧
      (
       ((bif bif bif true then { data := (List.take q_107 (List.drop (0 : Nat) ys_106)).toArray : ByteArray }.data.toList == { data := (List.take q_118 (List.drop (0 : Nat) ys_117)).toArray : ByteArray }.data.toList else false then n121 == (64 : Int) else false then n125 == (1 : Int) else false) = true) →
       ((0 : Nat) + Int.toNat (2 : Int) < ys_112.length)) ∧
      ∀ (n129 : Int),
      (n129 = (↑(ys_112.getD ((0 : Nat) + Int.toNat (2 : Int)) (0 : UInt8)).toNat : Int)) →
      (k (AV.bool (bif bif bif bif true then { data := (List.take q_107 (List.drop (0 : Nat) ys_106)).toArray : ByteArray }.data.toList == { data := (List.take q_118 (List.drop (0 : Nat) ys_117)).toArray : ByteArray }.data.toList else false then n121 == (64 : Int) else false then n125 == (1 : Int) else false then n129 == (0 : Int) else false)) [] []))
     ((false = false) ∧
      ∀ (n131 : Int),
      (n131 = (↑q_113 : Int)) →
      (
       ((bif false then n131 == (64 : Int) else false) = true) →
       ((0 : Int) ≤ (1 : Int)) ∧
       ((1 : Int) < (↑q_113 : Int))) ∧
      (
       ((bif false then n131 == (64 : Int) else false) = true) →
       ((0 : Nat) + Int.toNat (1 : Int) < ys_112.length)) ∧
      ∀ (n135 : Int),
      (n135 = (↑(ys_112.getD ((0 : Nat) + Int.toNat (1 : Int)) (0 : UInt8)).toNat : Int)) →
      (
       ((bif bif false then n131 == (64 : Int) else false then n135 == (1 : Int) else false) = true) →
       ((0 : Int) ≤ (2 : Int)) ∧
       ((2 : Int) < (↑q_113 : Int))) ∧
      (
       ((bif bif false then n131 == (64 : Int) else false then n135 == (1 : Int) else false) = true) →
       ((0 : Nat) + Int.toNat (2 : Int) < ys_112.length)) ∧
      ∀ (n139 : Int),
      (n139 = (↑(ys_112.getD ((0 : Nat) + Int.toNat (2 : Int)) (0 : UInt8)).toNat : Int)) →
      (k (AV.bool (bif bif bif false then n131 == (64 : Int) else false then n135 == (1 : Int) else false then n139 == (0 : Int) else false)) [] []))) ∧
   (
    ((0 : Int) ≤ (1 : Int)) ∧
    ((1 : Int) ≤ (255 : Int))) ∧
   ∀ (ys_141 : List UInt8),
   ∀ (q_142 : Nat),
   (ys_141 = List.replicate (64 : Nat) (UInt8.ofNat (Int.toNat (1 : Int)))) →
   (ys_141.length = q_142) →
   (
    ((List.take q_3 (List.drop (0 : Nat) ys_2)).length ≤ (1000000 : Nat)) ∧
    ((List.take (2 : Nat) (List.drop (0 : Nat) [{ n := (0 : Int), data := List.take q_8 (List.drop (0 : Nat) ys_7) : Put }, { n := (1 : Int), data := List.take q_142 (List.drop (0 : Nat) ys_141) : Put }])).length ≤ (1000000 : Nat))) ∧
   ∀ (e_145 : Int),
   ∀ (ys_146 : List UInt8),
   ∀ (n_147 : Nat),
   (e_145 = doE (List.take q_3 (List.drop (0 : Nat) ys_2)) (List.take (2 : Nat) (List.drop (0 : Nat) [{ n := (0 : Int), data := List.take q_8 (List.drop (0 : Nat) ys_7) : Put }, { n := (1 : Int), data := List.take q_142 (List.drop (0 : Nat) ys_141) : Put }])) (1 : Int) (2 : Int)) →
   (ys_146 = doO (List.take q_3 (List.drop (0 : Nat) ys_2)) (List.take (2 : Nat) (List.drop (0 : Nat) [{ n := (0 : Int), data := List.take q_8 (List.drop (0 : Nat) ys_7) : Put }, { n := (1 : Int), data := List.take q_142 (List.drop (0 : Nat) ys_141) : Put }])) (1 : Int) (2 : Int)) →
   (ys_146.length = n_147) →
   ((List.take n_147 (List.drop (0 : Nat) ys_146)).length ≤ (1000000 : Nat)) ∧
   ∀ (e_151 : Int),
   ∀ (ys_152 : List UInt8),
   ∀ (q_153 : Nat),
   (e_151 = askE (List.take n_147 (List.drop (0 : Nat) ys_146)) (0 : Int)) →
   (ys_152 = rdO (List.take n_147 (List.drop (0 : Nat) ys_146)) (0 : Int)) →
   (ys_152.length = q_153) →
   ((List.take n_147 (List.drop (0 : Nat) ys_146)).length ≤ (1000000 : Nat)) ∧
   ∀ (e_157 : Int),
   ∀ (ys_158 : List UInt8),
   ∀ (q_159 : Nat),
   (e_157 = askE (List.take n_147 (List.drop (0 : Nat) ys_146)) (1 : Int)) →
   (ys_158 = rdO (List.take n_147 (List.drop (0 : Nat) ys_146)) (1 : Int)) →
   (ys_158.length = q_159) →
   br (bif bif bif e_1 == (0 : Int) then e_145 == (0 : Int) else false then e_151 == (0 : Int) else false then e_157 == (0 : Int) else false)
    ((
      ((0 : Int) ≤ (1 : Int)) ∧
      ((1 : Int) ≤ (255 : Int))) ∧
     ∀ (ys_163 : List UInt8),
     ∀ (q_164 : Nat),
     (ys_163 = List.replicate (64 : Nat) (UInt8.ofNat (Int.toNat (1 : Int)))) →
     (ys_163.length = q_164) →
     ∀ (n167 : Int),
     (n167 = (↑q_159 : Int)) →
     (
      ((bif bif true then { data := (List.take q_153 (List.drop (0 : Nat) ys_152)).toArray : ByteArray }.data.toList == { data := (List.take q_164 (List.drop (0 : Nat) ys_163)).toArray : ByteArray }.data.toList else false then n167 == (64 : Int) else false) = true) →
      ((0 : Int) ≤ (1 : Int)) ∧
      ((1 : Int) < (↑q_159 : Int))) ∧
     (
      ((bif bif true then { data := (List.take q_153 (List.drop (0 : Nat) ys_152)).toArray : ByteArray }.data.toList == { data := (List.take q_164 (List.drop (0 : Nat) ys_163)).toArray : ByteArray }.data.toList else false then n167 == (64 : Int) else false) = true) →
      ((0 : Nat) + Int.toNat (1 : Int) < ys_158.length)) ∧
     ∀ (n171 : Int),
     (n171 = (↑(ys_158.getD ((0 : Nat) + Int.toNat (1 : Int)) (0 : UInt8)).toNat : Int)) →
     (
      ((bif bif bif true then { data := (List.take q_153 (List.drop (0 : Nat) ys_152)).toArray : ByteArray }.data.toList == { data := (List.take q_164 (List.drop (0 : Nat) ys_163)).toArray : ByteArray }.data.toList else false then n167 == (64 : Int) else false then n171 == (1 : Int) else false) = true) →
      ((0 : Int) ≤ (2 : Int)) ∧
      ((2 : Int) < (↑q_159 : Int))) ∧
     (
      ((bif bif bif true then { data := (List.take q_153 (List.drop (0 : Nat) ys_152)).toArray : ByteArray }.data.toList == { data := (List.take q_164 (List.drop (0 : Nat) ys_163)).toArray : ByteArray }.data.toList else false then n167 == (64 : Int) else false then n171 == (1 : Int) else false) = true) →
      ((0 : Nat) + Int.toNat (2 : Int) < ys_158.length)) ∧
     ∀ (n175 : Int),
     (n175 = (↑(ys_158.getD ((0 : Nat) + Int.toNat (2 : Int)) (0 : UInt8)).toNat : Int)) →
     (k (AV.bool (bif bif bif bif true then { data := (List.take q_153 (List.drop (0 : Nat) ys_152)).toArray : ByteArray }.data.toList == { data := (List.take q_164 (List.drop (0 : Nat) ys_163)).toArray : ByteArray }.data.toList else false then n167 == (64 : Int) else false then n171 == (1 : Int) else false then n175 == (0 : Int) else false)) [] []))
    ((false = false) ∧
     ∀ (n177 : Int),
     (n177 = (↑q_159 : Int)) →
     (
      ((bif false then n177 == (64 : Int) else false) = true) →
      ((0 : Int) ≤ (1 : Int)) ∧
      ((1 : Int) < (↑q_159 : Int))) ∧
     (
      ((bif false then n177 == (64 : Int) else false) = true) →
      ((0 : Nat) + Int.toNat (1 : Int) < ys_158.length)) ∧
     ∀ (n181 : Int),
     (n181 = (↑(ys_158.getD ((0 : Nat) + Int.toNat (1 : Int)) (0 : UInt8)).toNat : Int)) →
     (
      ((bif bif false then n177 == (64 : Int) else false then n181 == (1 : Int) else false) = true) →
      ((0 : Int) ≤ (2 : Int)) ∧
      ((2 : Int) < (↑q_159 : Int))) ∧
     (
      ((bif bif false then n177 == (64 : Int) else false then n181 == (1 : Int) else false) = true) →
      ((0 : Nat) + Int.toNat (2 : Int) < ys_158.length)) ∧
     ∀ (n185 : Int),
     (n185 = (↑(ys_158.getD ((0 : Nat) + Int.toNat (2 : Int)) (0 : UInt8)).toNat : Int)) →
     (k (AV.bool (bif bif bif false then n177 == (64 : Int) else false then n181 == (1 : Int) else false then n185 == (0 : Int) else false)) [] []))) ∧
  (
   ((0 : Int) ≤ (1 : Int)) ∧
   ((1 : Int) ≤ (255 : Int))) ∧
  ∀ (ys_187 : List UInt8),
  ∀ (q_188 : Nat),
  (ys_187 = List.replicate (64 : Nat) (UInt8.ofNat (Int.toNat (1 : Int)))) →
  (ys_187.length = q_188) →
  (
   ((0 : Int) ≤ (1 : Int)) ∧
   ((1 : Int) ≤ (255 : Int))) ∧
  ∀ (ys_191 : List UInt8),
  ∀ (q_192 : Nat),
  (ys_191 = List.replicate (64 : Nat) (UInt8.ofNat (Int.toNat (1 : Int)))) →
  (ys_191.length = q_192) →
  (
   ((List.take q_3 (List.drop (0 : Nat) ys_2)).length ≤ (1000000 : Nat)) ∧
   ((List.take (2 : Nat) (List.drop (0 : Nat) [{ n := (0 : Int), data := List.take q_188 (List.drop (0 : Nat) ys_187) : Put }, { n := (1 : Int), data := List.take q_192 (List.drop (0 : Nat) ys_191) : Put }])).length ≤ (1000000 : Nat))) ∧
  ∀ (e_195 : Int),
  ∀ (ys_196 : List UInt8),
  ∀ (n_197 : Nat),
  (e_195 = doE (List.take q_3 (List.drop (0 : Nat) ys_2)) (List.take (2 : Nat) (List.drop (0 : Nat) [{ n := (0 : Int), data := List.take q_188 (List.drop (0 : Nat) ys_187) : Put }, { n := (1 : Int), data := List.take q_192 (List.drop (0 : Nat) ys_191) : Put }])) (1 : Int) (2 : Int)) →
  (ys_196 = doO (List.take q_3 (List.drop (0 : Nat) ys_2)) (List.take (2 : Nat) (List.drop (0 : Nat) [{ n := (0 : Int), data := List.take q_188 (List.drop (0 : Nat) ys_187) : Put }, { n := (1 : Int), data := List.take q_192 (List.drop (0 : Nat) ys_191) : Put }])) (1 : Int) (2 : Int)) →
  (ys_196.length = n_197) →
  ((List.take n_197 (List.drop (0 : Nat) ys_196)).length ≤ (1000000 : Nat)) ∧
  ∀ (e_201 : Int),
  ∀ (ys_202 : List UInt8),
  ∀ (q_203 : Nat),
  (e_201 = askE (List.take n_197 (List.drop (0 : Nat) ys_196)) (0 : Int)) →
  (ys_202 = rdO (List.take n_197 (List.drop (0 : Nat) ys_196)) (0 : Int)) →
  (ys_202.length = q_203) →
  ((List.take n_197 (List.drop (0 : Nat) ys_196)).length ≤ (1000000 : Nat)) ∧
  ∀ (e_207 : Int),
  ∀ (ys_208 : List UInt8),
  ∀ (q_209 : Nat),
  (e_207 = askE (List.take n_197 (List.drop (0 : Nat) ys_196)) (1 : Int)) →
  (ys_208 = rdO (List.take n_197 (List.drop (0 : Nat) ys_196)) (1 : Int)) →
  (ys_208.length = q_209) →
  br (bif bif bif e_1 == (0 : Int) then e_195 == (0 : Int) else false then e_201 == (0 : Int) else false then e_207 == (0 : Int) else false)
   ((
     ((0 : Int) ≤ (1 : Int)) ∧
     ((1 : Int) ≤ (255 : Int))) ∧
    ∀ (ys_213 : List UInt8),
    ∀ (q_214 : Nat),
    (ys_213 = List.replicate (64 : Nat) (UInt8.ofNat (Int.toNat (1 : Int)))) →
    (ys_213.length = q_214) →
    ∀ (n217 : Int),
    (n217 = (↑q_209 : Int)) →
    (
     ((bif bif true then { data := (List.take q_203 (List.drop (0 : Nat) ys_202)).toArray : ByteArray }.data.toList == { data := (List.take q_214 (List.drop (0 : Nat) ys_213)).toArray : ByteArray }.data.toList else false then n217 == (64 : Int) else false) = true) →
     ((0 : Int) ≤ (1 : Int)) ∧
     ((1 : Int) < (↑q_209 : Int))) ∧
    (
     ((bif bif true then { data := (List.take q_203 (List.drop (0 : Nat) ys_202)).toArray : ByteArray }.data.toList == { data := (List.take q_214 (List.drop (0 : Nat) ys_213)).toArray : ByteArray }.data.toList else false then n217 == (64 : Int) else false) = true) →
     ((0 : Nat) + Int.toNat (1 : Int) < ys_208.length)) ∧
    ∀ (n221 : Int),
    (n221 = (↑(ys_208.getD ((0 : Nat) + Int.toNat (1 : Int)) (0 : UInt8)).toNat : Int)) →
    (
     ((bif bif bif true then { data := (List.take q_203 (List.drop (0 : Nat) ys_202)).toArray : ByteArray }.data.toList == { data := (List.take q_214 (List.drop (0 : Nat) ys_213)).toArray : ByteArray }.data.toList else false then n217 == (64 : Int) else false then n221 == (1 : Int) else false) = true) →
     ((0 : Int) ≤ (2 : Int)) ∧
     ((2 : Int) < (↑q_209 : Int))) ∧
    (
     ((bif bif bif true then { data := (List.take q_203 (List.drop (0 : Nat) ys_202)).toArray : ByteArray }.data.toList == { data := (List.take q_214 (List.drop (0 : Nat) ys_213)).toArray : ByteArray }.data.toList else false then n217 == (64 : Int) else false then n221 == (1 : Int) else false) = true) →
     ((0 : Nat) + Int.toNat (2 : Int) < ys_208.length)) ∧
    ∀ (n225 : Int),
    (n225 = (↑(ys_208.getD ((0 : Nat) + Int.toNat (2 : Int)) (0 : UInt8)).toNat : Int)) →
    (k (AV.bool (bif bif bif bif true then { data := (List.take q_203 (List.drop (0 : Nat) ys_202)).toArray : ByteArray }.data.toList == { data := (List.take q_214 (List.drop (0 : Nat) ys_213)).toArray : ByteArray }.data.toList else false then n217 == (64 : Int) else false then n221 == (1 : Int) else false then n225 == (0 : Int) else false)) [] []))
   ((false = false) ∧
    ∀ (n227 : Int),
    (n227 = (↑q_209 : Int)) →
    (
     ((bif false then n227 == (64 : Int) else false) = true) →
     ((0 : Int) ≤ (1 : Int)) ∧
     ((1 : Int) < (↑q_209 : Int))) ∧
    (
     ((bif false then n227 == (64 : Int) else false) = true) →
     ((0 : Nat) + Int.toNat (1 : Int) < ys_208.length)) ∧
    ∀ (n231 : Int),
    (n231 = (↑(ys_208.getD ((0 : Nat) + Int.toNat (1 : Int)) (0 : UInt8)).toNat : Int)) →
    (
     ((bif bif false then n227 == (64 : Int) else false then n231 == (1 : Int) else false) = true) →
     ((0 : Int) ≤ (2 : Int)) ∧
     ((2 : Int) < (↑q_209 : Int))) ∧
    (
     ((bif bif false then n227 == (64 : Int) else false then n231 == (1 : Int) else false) = true) →
     ((0 : Nat) + Int.toNat (2 : Int) < ys_208.length)) ∧
    ∀ (n235 : Int),
    (n235 = (↑(ys_208.getD ((0 : Nat) + Int.toNat (2 : Int)) (0 : UInt8)).toNat : Int)) →
    (k (AV.bool (bif bif bif false then n227 == (64 : Int) else false then n231 == (1 : Int) else false then n235 == (0 : Int) else false)) [] [])) := by
  intro e_1
  intro ys_2
  intro q_3
  intro h1 -- e_1 = newE (2 : Int)
  intro h2 -- ys_2 = newO (2 : Int)
  intro h3 -- ys_2.length = q_3
  refine ⟨?_, ?_⟩
  · -- left
    refine ⟨by first | omega | (dsimp only; omega), ?_⟩ -- (0 : Int) ≤ (1 : Int) ∧ (1 : Int) ≤ (255 : Int)
    intro ys_7
    intro q_8
    intro h4 -- ys_7 = List.replicate (64 : Nat) (UInt8.ofNat (Int.toNat (1 : Int)))
    intro h5 -- ys_7.length = q_8
    refine ⟨?_, ?_⟩
    · -- left
      refine ⟨by first | omega | (dsimp only; omega), ?_⟩ -- (0 : Int) ≤ (1 : Int) ∧ (1 : Int) ≤ (255 : Int)
      intro ys_11
      intro q_12
      intro h6 -- ys_11 = List.replicate (64 : Nat) (UInt8.ofNat (Int.toNat (1 : Int)))
      intro h7 -- ys_11.length = q_12
      refine ⟨?_, ?_⟩
      · -- left
        refine ⟨?_, ?_⟩
        · -- left
          refine ⟨?_, ?_⟩
          · -- left
            have h8 : (List.take q_3 (List.drop (0 : Nat) ys_2)).length ≤ (1000000 : Nat) := by
              have z : (newO 2).length = 128 := by decide +kernel
              rw [← h2] at z
              rw [List.length_take, List.length_drop]
              omega
            refine ⟨h8, ?_⟩
            -- (List.take (2 : Nat) (List.drop (0 : Nat) [{ n := (0 : Int), data := List.take q_8 (List.drop (0 : Nat) ys_7) : Put }, { n := (1 : Int), data := List.take q_12 (List.drop (0 : Nat) ys_11) : Put }])).length ≤ (1000000 : Nat)
            simp
          intro e_15
          intro ys_16
          intro n_17
          intro h9 -- e_15 = doE (List.take q_3 (List.drop (0 : Nat) ys_2)) (List.take (2 : Nat) (List.drop (0 : Nat) [{ n := (0 : Int), data := List.take q_8 (List.drop (0 : Nat) ys_7) : Put }, { n := (1 : Int), data := List.take q_12 (List.drop (0 : Nat) ys_11) : Put }])) (1 : Int) (2 : Int)
          intro h10 -- ys_16 = doO (List.take q_3 (List.drop (0 : Nat) ys_2)) (List.take (2 : Nat) (List.drop (0 : Nat) [{ n := (0 : Int), data := List.take q_8 (List.drop (0 : Nat) ys_7) : Put }, { n := (1 : Int), data := List.take q_12 (List.drop (0 : Nat) ys_11) : Put }])) (1 : Int) (2 : Int)
          intro h11 -- ys_16.length = n_17
          have h12 : (List.take n_17 (List.drop (0 : Nat) ys_16)).length ≤ (1000000 : Nat) := by
            have z := ex_L
            rw [← ex_D h2 h3 h4 h5 h6 h7 h10] at z
            rw [List.length_take, List.length_drop]
            omega
          refine ⟨h12, ?_⟩
          intro e_21
          intro ys_22
          intro q_23
          intro h13 -- e_21 = askE (List.take n_17 (List.drop (0 : Nat) ys_16)) (0 : Int)
          intro h14 -- ys_22 = rdO (List.take n_17 (List.drop (0 : Nat) ys_16)) (0 : Int)
          intro h15 -- ys_22.length = q_23
          refine ⟨by assumption, ?_⟩ -- (List.take n_17 (List.drop (0 : Nat) ys_16)).length ≤ (1000000 : Nat)
          intro e_27
          intro ys_28
          intro q_29
          intro h16 -- e_27 = askE (List.take n_17 (List.drop (0 : Nat) ys_16)) (1 : Int)
          intro h17 -- ys_28 = rdO (List.take n_17 (List.drop (0 : Nat) ys_16)) (1 : Int)
          intro h18 -- ys_28.length = q_29
          refine br_intro (fun c19 => ?_) (fun c19 => ?_) -- bif bif bif e_1 == (0 : Int) then e_15 == (0 : Int) else false then e_21 == (0 : Int) else false then e_27 == (0 : Int) else false
          · -- yes
            simp at c19 -- ((e_1 = (0 : Int) ∧ e_15 = (0 : Int)) ∧ e_21 = (0 : Int)) ∧ e_27 = (0 : Int)
            refine ⟨by first | omega | (dsimp only; omega), ?_⟩ -- (0 : Int) ≤ (1 : Int) ∧ (1 : Int) ≤ (255 : Int)
            intro ys_33
            intro q_34
            intro h20 -- ys_33 = List.replicate (64 : Nat) (UInt8.ofNat (Int.toNat (1 : Int)))
            intro h21 -- ys_33.length = q_34
            intro n37
            intro q37 -- n37 = (↑q_29 : Int)
            refine ⟨?_, ?_⟩
            · -- left
              intro q37 -- (bif bif true then { data := (List.take q_23 (List.drop (0 : Nat) ys_22)).toArray : ByteArray }.data.toList == { data := (List.take q_34 (List.drop (0 : Nat) ys_33)).toArray : ByteArray }.data.toList else false then n37 == (64 : Int) else false) = true
              simp at q37 -- List.take q_23 ys_22 = List.take q_34 ys_33 ∧ n37 = (64 : Int)
              refine ⟨by first | omega | (dsimp only; omega), ?_⟩ -- (0 : Int) ≤ (1 : Int)
              exact by omega -- (1 : Int) < (↑q_29 : Int)
            refine ⟨?_, ?_⟩
            · -- left
              intro q37 -- (bif bif true then { data := (List.take q_23 (List.drop (0 : Nat) ys_22)).toArray : ByteArray }.data.toList == { data := (List.take q_34 (List.drop (0 : Nat) ys_33)).toArray : ByteArray }.data.toList else false then n37 == (64 : Int) else false) = true
              simp at q37 -- List.take q_23 ys_22 = List.take q_34 ys_33 ∧ n37 = (64 : Int)
              exact by omega -- (0 : Nat) + Int.toNat (1 : Int) < ys_28.length
            intro n41
            intro q41 -- n41 = (↑(ys_28.getD ((0 : Nat) + Int.toNat (1 : Int)) (0 : UInt8)).toNat : Int)
            refine ⟨?_, ?_⟩
            · -- left
              intro q41 -- (bif bif bif true then { data := (List.take q_23 (List.drop (0 : Nat) ys_22)).toArray : ByteArray }.data.toList == { data := (List.take q_34 (List.drop (0 : Nat) ys_33)).toArray : ByteArray }.data.toList else false then n37 == (64 : Int) else false then n41 == (1 : Int) else false) = true
              simp at q41 -- (List.take q_23 ys_22 = List.take q_34 ys_33 ∧ n37 = (64 : Int)) ∧ n41 = (1 : Int)
              refine ⟨by first | omega | (dsimp only; omega), ?_⟩ -- (0 : Int) ≤ (2 : Int)
              exact by omega -- (2 : Int) < (↑q_29 : Int)
            refine ⟨?_, ?_⟩
            · -- left
              intro q41 -- (bif bif bif true then { data := (List.take q_23 (List.drop (0 : Nat) ys_22)).toArray : ByteArray }.data.toList == { data := (List.take q_34 (List.drop (0 : Nat) ys_33)).toArray : ByteArray }.data.toList else false then n37 == (64 : Int) else false then n41 == (1 : Int) else false) = true
              simp at q41 -- (List.take q_23 ys_22 = List.take q_34 ys_33 ∧ n37 = (64 : Int)) ∧ n41 = (1 : Int)
              exact by omega -- (0 : Nat) + Int.toNat (2 : Int) < ys_28.length
            intro n45
            intro q45 -- n45 = (↑(ys_28.getD ((0 : Nat) + Int.toNat (2 : Int)) (0 : UInt8)).toNat : Int)
            -- k (AV.bool (bif bif bif bif true then { data := (List.take q_23 (List.drop (0 : Nat) ys_22)).toArray : ByteArray }.data.toList == { data := (List.take q_34 (List.drop (0 : Nat) ys_33)).toArray : ByteArray }.data.toList else false then n37 == (64 : Int) else false then n41 == (1 : Int) else false then n45 == (0 : Int) else false)) [] []
            have F := ex_fin h1 h2 h3 h4 h5 h6 h7 h9 h10 h11 h13 h14 h15 h16 h17 h18
            obtain ⟨-, -, -, -, f5, f6, f7, f8⟩ := F
            have g5 : List.take q_34 (List.drop 0 ys_33) = one64 := by rw [← h21, List.drop_zero, List.take_length, h20]; rfl
            have g6 : n37 = 64 := by omega
            have g7 : n41 = 1 := by rw [q41]; show ((ys_28.getD 1 0).toNat : Int) = 1; rw [f7]; rfl
            have g8 : n45 = 0 := by rw [q45]; show ((ys_28.getD 2 0).toNat : Int) = 0; rw [f8]; rfl
            exact k_true hk (by rw [f5, g5, g6, g7, g8]; generalize one64 = u; simp)
          · -- no
            simp at c19 -- e_1 = (0 : Int) → e_15 = (0 : Int) → e_21 = (0 : Int) → ¬e_27 = (0 : Int)
            refine ⟨by with_reducible rfl, ?_⟩ -- false = false
            intro n47
            intro q47 -- n47 = (↑q_29 : Int)
            refine ⟨?_, ?_⟩
            · -- left
              intro q47 -- (bif false then n47 == (64 : Int) else false) = true
              simp at q47
            refine ⟨?_, ?_⟩
            · -- left
              intro q47 -- (bif false then n47 == (64 : Int) else false) = true
              simp at q47
            intro n51
            intro q51 -- n51 = (↑(ys_28.getD ((0 : Nat) + Int.toNat (1 : Int)) (0 : UInt8)).toNat : Int)
            refine ⟨?_, ?_⟩
            · -- left
              intro q51 -- (bif bif false then n47 == (64 : Int) else false then n51 == (1 : Int) else false) = true
              simp at q51
            refine ⟨?_, ?_⟩
            · -- left
              intro q51 -- (bif bif false then n47 == (64 : Int) else false then n51 == (1 : Int) else false) = true
              simp at q51
            intro n55
            intro q55 -- n55 = (↑(ys_28.getD ((0 : Nat) + Int.toNat (2 : Int)) (0 : UInt8)).toNat : Int)
            -- k (AV.bool (bif bif bif false then n47 == (64 : Int) else false then n51 == (1 : Int) else false then n55 == (0 : Int) else false)) [] []
            have F := ex_fin h1 h2 h3 h4 h5 h6 h7 h9 h10 h11 h13 h14 h15 h16 h17 h18
            exact absurd F.2.2.2.1 (c19 F.1 F.2.1 F.2.2.1)
        refine ⟨?_, ?_⟩
        · -- left
          have h22 : (List.take q_3 (List.drop (0 : Nat) ys_2)).length ≤ (1000000 : Nat) := by
            have z : (newO 2).length = 128 := by decide +kernel
            rw [← h2] at z
            rw [List.length_take, List.length_drop]
            omega
          refine ⟨h22, ?_⟩
          -- (List.take (2 : Nat) (List.drop (0 : Nat) [{ n := (0 : Int), data := List.take q_8 (List.drop (0 : Nat) ys_7) : Put }, { n := (1 : Int), data := List.take q_12 (List.drop (0 : Nat) ys_11) : Put }])).length ≤ (1000000 : Nat)
          simp
        intro e_57
        intro ys_58
        intro n_59
        intro h23 -- e_57 = doE (List.take q_3 (List.drop (0 : Nat) ys_2)) (List.take (2 : Nat) (List.drop (0 : Nat) [{ n := (0 : Int), data := List.take q_8 (List.drop (0 : Nat) ys_7) : Put }, { n := (1 : Int), data := List.take q_12 (List.drop (0 : Nat) ys_11) : Put }])) (1 : Int) (2 : Int)
        intro h24 -- ys_58 = doO (List.take q_3 (List.drop (0 : Nat) ys_2)) (List.take (2 : Nat) (List.drop (0 : Nat) [{ n := (0 : Int), data := List.take q_8 (List.drop (0 : Nat) ys_7) : Put }, { n := (1 : Int), data := List.take q_12 (List.drop (0 : Nat) ys_11) : Put }])) (1 : Int) (2 : Int)
        intro h25 -- ys_58.length = n_59
        have h26 : (List.take n_59 (List.drop (0 : Nat) ys_58)).length ≤ (1000000 : Nat) := by
          have z := ex_L
          rw [← ex_D h2 h3 h4 h5 h6 h7 h24] at z
          rw [List.length_take, List.length_drop]
          omega
        refine ⟨h26, ?_⟩
        intro e_63
        intro ys_64
        intro q_65
        intro h27 -- e_63 = askE (List.take n_59 (List.drop (0 : Nat) ys_58)) (0 : Int)
        intro h28 -- ys_64 = rdO (List.take n_59 (List.drop (0 : Nat) ys_58)) (0 : Int)
        intro h29 -- ys_64.length = q_65
        refine ⟨by assumption, ?_⟩ -- (List.take n_59 (List.drop (0 : Nat) ys_58)).length ≤ (1000000 : Nat)
        intro e_69
        intro ys_70
        intro q_71
        intro h30 -- e_69 = askE (List.take n_59 (List.drop (0 : Nat) ys_58)) (1 : Int)
        intro h31 -- ys_70 = rdO (List.take n_59 (List.drop (0 : Nat) ys_58)) (1 : Int)
        intro h32 -- ys_70.length = q_71
        refine br_intro (fun c33 => ?_) (fun c33 => ?_) -- bif bif bif e_1 == (0 : Int) then e_57 == (0 : Int) else false then e_63 == (0 : Int) else false then e_69 == (0 : Int) else false
        · -- yes
          simp at c33 -- ((e_1 = (0 : Int) ∧ e_57 = (0 : Int)) ∧ e_63 = (0 : Int)) ∧ e_69 = (0 : Int)
          refine ⟨by first | omega | (dsimp only; omega), ?_⟩ -- (0 : Int) ≤ (1 : Int) ∧ (1 : Int) ≤ (255 : Int)
          intro ys_75
          intro q_76
          intro h34 -- ys_75 = List.replicate (64 : Nat) (UInt8.ofNat (Int.toNat (1 : Int)))
          intro h35 -- ys_75.length = q_76
          intro n79
          intro q79 -- n79 = (↑q_71 : Int)
          refine ⟨?_, ?_⟩
          · -- left
            intro q79 -- (bif bif true then { data := (List.take q_65 (List.drop (0 : Nat) ys_64)).toArray : ByteArray }.data.toList == { data := (List.take q_76 (List.drop (0 : Nat) ys_75)).toArray : ByteArray }.data.toList else false then n79 == (64 : Int) else false) = true
            simp at q79 -- List.take q_65 ys_64 = List.take q_76 ys_75 ∧ n79 = (64 : Int)
            refine ⟨by first | omega | (dsimp only; omega), ?_⟩ -- (0 : Int) ≤ (1 : Int)
            exact by omega -- (1 : Int) < (↑q_71 : Int)
          refine ⟨?_, ?_⟩
          · -- left
            intro q79 -- (bif bif true then { data := (List.take q_65 (List.drop (0 : Nat) ys_64)).toArray : ByteArray }.data.toList == { data := (List.take q_76 (List.drop (0 : Nat) ys_75)).toArray : ByteArray }.data.toList else false then n79 == (64 : Int) else false) = true
            simp at q79 -- List.take q_65 ys_64 = List.take q_76 ys_75 ∧ n79 = (64 : Int)
            exact by omega -- (0 : Nat) + Int.toNat (1 : Int) < ys_70.length
          intro n83
          intro q83 -- n83 = (↑(ys_70.getD ((0 : Nat) + Int.toNat (1 : Int)) (0 : UInt8)).toNat : Int)
          refine ⟨?_, ?_⟩
          · -- left
            intro q83 -- (bif bif bif true then { data := (List.take q_65 (List.drop (0 : Nat) ys_64)).toArray : ByteArray }.data.toList == { data := (List.take q_76 (List.drop (0 : Nat) ys_75)).toArray : ByteArray }.data.toList else false then n79 == (64 : Int) else false then n83 == (1 : Int) else false) = true
            simp at q83 -- (List.take q_65 ys_64 = List.take q_76 ys_75 ∧ n79 = (64 : Int)) ∧ n83 = (1 : Int)
            refine ⟨by first | omega | (dsimp only; omega), ?_⟩ -- (0 : Int) ≤ (2 : Int)
            exact by omega -- (2 : Int) < (↑q_71 : Int)
          refine ⟨?_, ?_⟩
          · -- left
            intro q83 -- (bif bif bif true then { data := (List.take q_65 (List.drop (0 : Nat) ys_64)).toArray : ByteArray }.data.toList == { data := (List.take q_76 (List.drop (0 : Nat) ys_75)).toArray : ByteArray }.data.toList else false then n79 == (64 : Int) else false then n83 == (1 : Int) else false) = true
            simp at q83 -- (List.take q_65 ys_64 = List.take q_76 ys_75 ∧ n79 = (64 : Int)) ∧ n83 = (1 : Int)
            exact by omega -- (0 : Nat) + Int.toNat (2 : Int) < ys_70.length
          intro n87
          intro q87 -- n87 = (↑(ys_70.getD ((0 : Nat) + Int.toNat (2 : Int)) (0 : UInt8)).toNat : Int)
          -- k (AV.bool (bif bif bif bif true then { data := (List.take q_65 (List.drop (0 : Nat) ys_64)).toArray : ByteArray }.data.toList == { data := (List.take q_76 (List.drop (0 : Nat) ys_75)).toArray : ByteArray }.data.toList else false then n79 == (64 : Int) else false then n83 == (1 : Int) else false then n87 == (0 : Int) else false)) [] []
          have F := ex_fin h1 h2 h3 h4 h5 h6 h7 h23 h24 h25 h27 h28 h29 h30 h31 h32
          obtain ⟨-, -, -, -, f5, f6, f7, f8⟩ := F
          have g5 : List.take q_76 (List.drop 0 ys_75) = one64 := by rw [← h35, List.drop_zero, List.take_length, h34]; rfl
          have g6 : n79 = 64 := by omega
          have g7 : n83 = 1 := by rw [q83]; show ((ys_70.getD 1 0).toNat : Int) = 1; rw [f7]; rfl
          have g8 : n87 = 0 := by rw [q87]; show ((ys_70.getD 2 0).toNat : Int) = 0; rw [f8]; rfl
          exact k_true hk (by rw [f5, g5, g6, g7, g8]; generalize one64 = u; simp)
        · -- no
          simp at c33 -- e_1 = (0 : Int) → e_57 = (0 : Int) → e_63 = (0 : Int) → ¬e_69 = (0 : Int)
          refine ⟨by with_reducible rfl, ?_⟩ -- false = false
          intro n89
          intro q89 -- n89 = (↑q_71 : Int)
          refine ⟨?_, ?_⟩
          · -- left
            intro q89 -- (bif false then n89 == (64 : Int) else false) = true
            simp at q89
          refine ⟨?_, ?_⟩
          · -- left
            intro q89 -- (bif false then n89 == (64 : Int) else false) = true
            simp at q89
          intro n93
          intro q93 -- n93 = (↑(ys_70.getD ((0 : Nat) + Int.toNat (1 : Int)) (0 : UInt8)).toNat : Int)
          refine ⟨?_, ?_⟩
          · -- left
            intro q93 -- (bif bif false then n89 == (64 : Int) else false then n93 == (1 : Int) else false) = true
            simp at q93
          refine ⟨?_, ?_⟩
          · -- left
            intro q93 -- (bif bif false then n89 == (64 : Int) else false then n93 == (1 : Int) else false) = true
            simp at q93
          intro n97
          intro q97 -- n97 = (↑(ys_70.getD ((0 : Nat) + Int.toNat (2 : Int)) (0 : UInt8)).toNat : Int)
          -- k (AV.bool (bif bif bif false then n89 == (64 : Int) else false then n93 == (1 : Int) else false then n97 == (0 : Int) else false)) [] []
          have F := ex_fin h1 h2 h3 h4 h5 h6 h7 h23 h24 h25 h27 h28 h29 h30 h31 h32
          exact absurd F.2.2.2.1 (c33 F.1 F.2.1 F.2.2.1)
      refine ⟨?_, ?_⟩
      · -- left
        have h36 : (List.take q_3 (List.drop (0 : Nat) ys_2)).length ≤ (1000000 : Nat) := by
          have z : (newO 2).length = 128 := by decide +kernel
          rw [← h2] at z
          rw [List.length_take, List.length_drop]
          omega
        refine ⟨h36, ?_⟩
        -- (List.take (2 : Nat) (List.drop (0 : Nat) [{ n := (0 : Int), data := List.take q_8 (List.drop (0 : Nat) ys_7) : Put }, { n := (1 : Int), data := List.take q_12 (List.drop (0 : Nat) ys_11) : Put }])).length ≤ (1000000 : Nat)
        simp
      intro e_99
      intro ys_100
      intro n_101
      intro h37 -- e_99 = doE (List.take q_3 (List.drop (0 : Nat) ys_2)) (List.take (2 : Nat) (List.drop (0 : Nat) [{ n := (0 : Int), data := List.take q_8 (List.drop (0 : Nat) ys_7) : Put }, { n := (1 : Int), data := List.take q_12 (List.drop (0 : Nat) ys_11) : Put }])) (1 : Int) (2 : Int)
      intro h38 -- ys_100 = doO (List.take q_3 (List.drop (0 : Nat) ys_2)) (List.take (2 : Nat) (List.drop (0 : Nat) [{ n := (0 : Int), data := List.take q_8 (List.drop (0 : Nat) ys_7) : Put }, { n := (1 : Int), data := List.take q_12 (List.drop (0 : Nat) ys_11) : Put }])) (1 : Int) (2 : Int)
      intro h39 -- ys_100.length = n_101
      have h40 : (List.take n_101 (List.drop (0 : Nat) ys_100)).length ≤ (1000000 : Nat) := by
        have z := ex_L
        rw [← ex_D h2 h3 h4 h5 h6 h7 h38] at z
        rw [List.length_take, List.length_drop]
        omega
      refine ⟨h40, ?_⟩
      intro e_105
      intro ys_106
      intro q_107
      intro h41 -- e_105 = askE (List.take n_101 (List.drop (0 : Nat) ys_100)) (0 : Int)
      intro h42 -- ys_106 = rdO (List.take n_101 (List.drop (0 : Nat) ys_100)) (0 : Int)
      intro h43 -- ys_106.length = q_107
      refine ⟨by assumption, ?_⟩ -- (List.take n_101 (List.drop (0 : Nat) ys_100)).length ≤ (1000000 : Nat)
      intro e_111
      intro ys_112
      intro q_113
      intro h44 -- e_111 = askE (List.take n_101 (List.drop (0 : Nat) ys_100)) (1 : Int)
      intro h45 -- ys_112 = rdO (List.take n_101 (List.drop (0 : Nat) ys_100)) (1 : Int)
      intro h46 -- ys_112.length = q_113
      refine br_intro (fun c47 => ?_) (fun c47 => ?_) -- bif bif bif e_1 == (0 : Int) then e_99 == (0 : Int) else false then e_105 == (0 : Int) else false then e_111 == (0 : Int) else false
      · -- yes
        simp at c47 -- ((e_1 = (0 : Int) ∧ e_99 = (0 : Int)) ∧ e_105 = (0 : Int)) ∧ e_111 = (0 : Int)
        refine ⟨by first | omega | (dsimp only; omega), ?_⟩ -- (0 : Int) ≤ (1 : Int) ∧ (1 : Int) ≤ (255 : Int)
        intro ys_117
        intro q_118
        intro h48 -- ys_117 = List.replicate (64 : Nat) (UInt8.ofNat (Int.toNat (1 : Int)))
        intro h49 -- ys_117.length = q_118
        intro n121
        intro q121 -- n121 = (↑q_113 : Int)
        refine ⟨?_, ?_⟩
        · -- left
          intro q121 -- (bif bif true then { data := (List.take q_107 (List.drop (0 : Nat) ys_106)).toArray : ByteArray }.data.toList == { data := (List.take q_118 (List.drop (0 : Nat) ys_117)).toArray : ByteArray }.data.toList else false then n121 == (64 : Int) else false) = true
          simp at q121 -- List.take q_107 ys_106 = List.take q_118 ys_117 ∧ n121 = (64 : Int)
          refine ⟨by first | omega | (dsimp only; omega), ?_⟩ -- (0 : Int) ≤ (1 : Int)
          exact by omega -- (1 : Int) < (↑q_113 : Int)
        refine ⟨?_, ?_⟩
        · -- left
          intro q121 -- (bif bif true then { data := (List.take q_107 (List.drop (0 : Nat) ys_106)).toArray : ByteArray }.data.toList == { data := (List.take q_118 (List.drop (0 : Nat) ys_117)).toArray : ByteArray }.data.toList else false then n121 == (64 : Int) else false) = true
          simp at q121 -- List.take q_107 ys_106 = List.take q_118 ys_117 ∧ n121 = (64 : Int)
          exact by omega -- (0 : Nat) + Int.toNat (1 : Int) < ys_112.length
        intro n125
        intro q125 -- n125 = (↑(ys_112.getD ((0 : Nat) + Int.toNat (1 : Int)) (0 : UInt8)).toNat : Int)
        refine ⟨?_, ?_⟩
        · -- left
          intro q125 -- (bif bif bif true then { data := (List.take q_107 (List.drop (0 : Nat) ys_106)).toArray : ByteArray }.data.toList == { data := (List.take q_118 (List.drop (0 : Nat) ys_117)).toArray : ByteArray }.data.toList else false then n121 == (64 : Int) else false then n125 == (1 : Int) else false) = true
          simp at q125 -- (List.take q_107 ys_106 = List.take q_118 ys_117 ∧ n121 = (64 : Int)) ∧ n125 = (1 : Int)
          refine ⟨by first | omega | (dsimp only; omega), ?_⟩ -- (0 : Int) ≤ (2 : Int)
          exact by omega -- (2 : Int) < (↑q_113 : Int)
        refine ⟨?_, ?_⟩
        · -- left
          intro q125 -- (bif bif bif true then { data := (List.take q_107 (List.drop (0 : Nat) ys_106)).toArray : ByteArray }.data.toList == { data := (List.take q_118 (List.drop (0 : Nat) ys_117)).toArray : ByteArray }.data.toList else false then n121 == (64 : Int) else false then n125 == (1 : Int) else false) = true
          simp at q125 -- (List.take q_107 ys_106 = List.take q_118 ys_117 ∧ n121 = (64 : Int)) ∧ n125 = (1 : Int)
          exact by omega -- (0 : Nat) + Int.toNat (2 : Int) < ys_112.length
        intro n129
        intro q129 -- n129 = (↑(ys_112.getD ((0 : Nat) + Int.toNat (2 : Int)) (0 : UInt8)).toNat : Int)
        -- k (AV.bool (bif bif bif bif true then { data := (List.take q_107 (List.drop (0 : Nat) ys_106)).toArray : ByteArray }.data.toList == { data := (List.take q_118 (List.drop (0 : Nat) ys_117)).toArray : ByteArray }.data.toList else false then n121 == (64 : Int) else false then n125 == (1 : Int) else false then n129 == (0 : Int) else false)) [] []
        have F := ex_fin h1 h2 h3 h4 h5 h6 h7 h37 h38 h39 h41 h42 h43 h44 h45 h46
        obtain ⟨-, -, -, -, f5, f6, f7, f8⟩ := F
        have g5 : List.take q_118 (List.drop 0 ys_117) = one64 := by rw [← h49, List.drop_zero, List.take_length, h48]; rfl
        have g6 : n121 = 64 := by omega
        have g7 : n125 = 1 := by rw [q125]; show ((ys_112.getD 1 0).toNat : Int) = 1; rw [f7]; rfl
        have g8 : n129 = 0 := by rw [q129]; show ((ys_112.getD 2 0).toNat : Int) = 0; rw [f8]; rfl
        exact k_true hk (by rw [f5, g5, g6, g7, g8]; generalize one64 = u; simp)
      · -- no
        simp at c47 -- e_1 = (0 : Int) → e_99 = (0 : Int) → e_105 = (0 : Int) → ¬e_111 = (0 : Int)
        refine ⟨by with_reducible rfl, ?_⟩ -- false = false
        intro n131
        intro q131 -- n131 = (↑q_113 : Int)
        refine ⟨?_, ?_⟩
        · -- left
          intro q131 -- (bif false then n131 == (64 : Int) else false) = true
          simp at q131
        refine ⟨?_, ?_⟩
        · -- left
          intro q131 -- (bif false then n131 == (64 : Int) else false) = true
          simp at q131
        intro n135
        intro q135 -- n135 = (↑(ys_112.getD ((0 : Nat) + Int.toNat (1 : Int)) (0 : UInt8)).toNat : Int)
        refine ⟨?_, ?_⟩
        · -- left
          intro q135 -- (bif bif false then n131 == (64 : Int) else false then n135 == (1 : Int) else false) = true
          simp at q135
        refine ⟨?_, ?_⟩
        · -- left
          intro q135 -- (bif bif false then n131 == (64 : Int) else false then n135 == (1 : Int) else false) = true
          simp at q135
        intro n139
        intro q139 -- n139 = (↑(ys_112.getD ((0 : Nat) + Int.toNat (2 : Int)) (0 : UInt8)).toNat : Int)
        -- k (AV.bool (bif bif bif false then n131 == (64 : Int) else false then n135 == (1 : Int) else false then n139 == (0 : Int) else false)) [] []
        have F := ex_fin h1 h2 h3 h4 h5 h6 h7 h37 h38 h39 h41 h42 h43 h44 h45 h46
        exact absurd F.2.2.2.1 (c47 F.1 F.2.1 F.2.2.1)
    refine ⟨by first | omega | (dsimp only; omega), ?_⟩ -- (0 : Int) ≤ (1 : Int) ∧ (1 : Int) ≤ (255 : Int)
    intro ys_141
    intro q_142
    intro h50 -- ys_141 = List.replicate (64 : Nat) (UInt8.ofNat (Int.toNat (1 : Int)))
    intro h51 -- ys_141.length = q_142
    refine ⟨?_, ?_⟩
    · -- left
      have h52 : (List.take q_3 (List.drop (0 : Nat) ys_2)).length ≤ (1000000 : Nat) := by
        have z : (newO 2).length = 128 := by decide +kernel
        rw [← h2] at z
        rw [List.length_take, List.length_drop]
        omega
      refine ⟨h52, ?_⟩
      -- (List.take (2 : Nat) (List.drop (0 : Nat) [{ n := (0 : Int), data := List.take q_8 (List.drop (0 : Nat) ys_7) : Put }, { n := (1 : Int), data := List.take q_142 (List.drop (0 : Nat) ys_141) : Put }])).length ≤ (1000000 : Nat)
      simp
    intro e_145
    intro ys_146
    intro n_147
    intro h53 -- e_145 = doE (List.take q_3 (List.drop (0 : Nat) ys_2)) (List.take (2 : Nat) (List.drop (0 : Nat) [{ n := (0 : Int), data := List.take q_8 (List.drop (0 : Nat) ys_7) : Put }, { n := (1 : Int), data := List.take q_142 (List.drop (0 : Nat) ys_141) : Put }])) (1 : Int) (2 : Int)
    intro h54 -- ys_146 = doO (List.take q_3 (List.drop (0 : Nat) ys_2)) (List.take (2 : Nat) (List.drop (0 : Nat) [{ n := (0 : Int), data := List.take q_8 (List.drop (0 : Nat) ys_7) : Put }, { n := (1 : Int), data := List.take q_142 (List.drop (0 : Nat) ys_141) : Put }])) (1 : Int) (2 : Int)
    intro h55 -- ys_146.length = n_147
    have h56 : (List.take n_147 (List.drop (0 : Nat) ys_146)).length ≤ (1000000 : Nat) := by
      have z := ex_L
      rw [← ex_D h2 h3 h4 h5 h50 h51 h54] at z
      rw [List.length_take, List.length_drop]
      omega
    refine ⟨h56, ?_⟩
    intro e_151
    intro ys_152
    intro q_153
    intro h57 -- e_151 = askE (List.take n_147 (List.drop (0 : Nat) ys_146)) (0 : Int)
    intro h58 -- ys_152 = rdO (List.take n_147 (List.drop (0 : Nat) ys_146)) (0 : Int)
    intro h59 -- ys_152.length = q_153
    refine ⟨by assumption, ?_⟩ -- (List.take n_147 (List.drop (0 : Nat) ys_146)).length ≤ (1000000 : Nat)
    intro e_157
    intro ys_158
    intro q_159
    intro h60 -- e_157 = askE (List.take n_147 (List.drop (0 : Nat) ys_146)) (1 : Int)
    intro h61 -- ys_158 = rdO (List.take n_147 (List.drop (0 : Nat) ys_146)) (1 : Int)
    intro h62 -- ys_158.length = q_159
    refine br_intro (fun c63 => ?_) (fun c63 => ?_) -- bif bif bif e_1 == (0 : Int) then e_145 == (0 : Int) else false then e_151 == (0 : Int) else false then e_157 == (0 : Int) else false
    · -- yes
      simp at c63 -- ((e_1 = (0 : Int) ∧ e_145 = (0 : Int)) ∧ e_151 = (0 : Int)) ∧ e_157 = (0 : Int)
      refine ⟨by first | omega | (dsimp only; omega), ?_⟩ -- (0 : Int) ≤ (1 : Int) ∧ (1 : Int) ≤ (255 : Int)
      intro ys_163
      intro q_164
      intro h64 -- ys_163 = List.replicate (64 : Nat) (UInt8.ofNat (Int.toNat (1 : Int)))
      intro h65 -- ys_163.length = q_164
      intro n167
      intro q167 -- n167 = (↑q_159 : Int)
      refine ⟨?_, ?_⟩
      · -- left
        intro q167 -- (bif bif true then { data := (List.take q_153 (List.drop (0 : Nat) ys_152)).toArray : ByteArray }.data.toList == { data := (List.take q_164 (List.drop (0 : Nat) ys_163)).toArray : ByteArray }.data.toList else false then n167 == (64 : Int) else false) = true
        simp at q167 -- List.take q_153 ys_152 = List.take q_164 ys_163 ∧ n167 = (64 : Int)
        refine ⟨by first | omega | (dsimp only; omega), ?_⟩ -- (0 : Int) ≤ (1 : Int)
        exact by omega -- (1 : Int) < (↑q_159 : Int)
      refine ⟨?_, ?_⟩
      · -- left
        intro q167 -- (bif bif true then { data := (List.take q_153 (List.drop (0 : Nat) ys_152)).toArray : ByteArray }.data.toList == { data := (List.take q_164 (List.drop (0 : Nat) ys_163)).toArray : ByteArray }.data.toList else false then n167 == (64 : Int) else false) = true
        simp at q167 -- List.take q_153 ys_152 = List.take q_164 ys_163 ∧ n167 = (64 : Int)
        exact by omega -- (0 : Nat) + Int.toNat (1 : Int) < ys_158.length
      intro n171
      intro q171 -- n171 = (↑(ys_158.getD ((0 : Nat) + Int.toNat (1 : Int)) (0 : UInt8)).toNat : Int)
      refine ⟨?_, ?_⟩
      · -- left
        intro q171 -- (bif bif bif true then { data := (List.take q_153 (List.drop (0 : Nat) ys_152)).toArray : ByteArray }.data.toList == { data := (List.take q_164 (List.drop (0 : Nat) ys_163)).toArray : ByteArray }.data.toList else false then n167 == (64 : Int) else false then n171 == (1 : Int) else false) = true
        simp at q171 -- (List.take q_153 ys_152 = List.take q_164 ys_163 ∧ n167 = (64 : Int)) ∧ n171 = (1 : Int)
        refine ⟨by first | omega | (dsimp only; omega), ?_⟩ -- (0 : Int) ≤ (2 : Int)
        exact by omega -- (2 : Int) < (↑q_159 : Int)
      refine ⟨?_, ?_⟩
      · -- left
        intro q171 -- (bif bif bif true then { data := (List.take q_153 (List.drop (0 : Nat) ys_152)).toArray : ByteArray }.data.toList == { data := (List.take q_164 (List.drop (0 : Nat) ys_163)).toArray : ByteArray }.data.toList else false then n167 == (64 : Int) else false then n171 == (1 : Int) else false) = true
        simp at q171 -- (List.take q_153 ys_152 = List.take q_164 ys_163 ∧ n167 = (64 : Int)) ∧ n171 = (1 : Int)
        exact by omega -- (0 : Nat) + Int.toNat (2 : Int) < ys_158.length
      intro n175
      intro q175 -- n175 = (↑(ys_158.getD ((0 : Nat) + Int.toNat (2 : Int)) (0 : UInt8)).toNat : Int)
      -- k (AV.bool (bif bif bif bif true then { data := (List.take q_153 (List.drop (0 : Nat) ys_152)).toArray : ByteArray }.data.toList == { data := (List.take q_164 (List.drop (0 : Nat) ys_163)).toArray : ByteArray }.data.toList else false then n167 == (64 : Int) else false then n171 == (1 : Int) else false then n175 == (0 : Int) else false)) [] []
      have F := ex_fin h1 h2 h3 h4 h5 h50 h51 h53 h54 h55 h57 h58 h59 h60 h61 h62
      obtain ⟨-, -, -, -, f5, f6, f7, f8⟩ := F
      have g5 : List.take q_164 (List.drop 0 ys_163) = one64 := by rw [← h65, List.drop_zero, List.take_length, h64]; rfl
      have g6 : n167 = 64 := by omega
      have g7 : n171 = 1 := by rw [q171]; show ((ys_158.getD 1 0).toNat : Int) = 1; rw [f7]; rfl
      have g8 : n175 = 0 := by rw [q175]; show ((ys_158.getD 2 0).toNat : Int) = 0; rw [f8]; rfl
      exact k_true hk (by rw [f5, g5, g6, g7, g8]; generalize one64 = u; simp)
    · -- no
      simp at c63 -- e_1 = (0 : Int) → e_145 = (0 : Int) → e_151 = (0 : Int) → ¬e_157 = (0 : Int)
      refine ⟨by with_reducible rfl, ?_⟩ -- false = false
      intro n177
      intro q177 -- n177 = (↑q_159 : Int)
      refine ⟨?_, ?_⟩
      · -- left
        intro q177 -- (bif false then n177 == (64 : Int) else false) = true
        simp at q177
      refine ⟨?_, ?_⟩
      · -- left
        intro q177 -- (bif false then n177 == (64 : Int) else false) = true
        simp at q177
      intro n181
      intro q181 -- n181 = (↑(ys_158.getD ((0 : Nat) + Int.toNat (1 : Int)) (0 : UInt8)).toNat : Int)
      refine ⟨?_, ?_⟩
      · -- left
        intro q181 -- (bif bif false then n177 == (64 : Int) else false then n181 == (1 : Int) else false) = true
        simp at q181
      refine ⟨?_, ?_⟩
      · -- left
        intro q181 -- (bif bif false then n177 == (64 : Int) else false then n181 == (1 : Int) else false) = true
        simp at q181
      intro n185
      intro q185 -- n185 = (↑(ys_158.getD ((0 : Nat) + Int.toNat (2 : Int)) (0 : UInt8)).toNat : Int)
      -- k (AV.bool (bif bif bif false then n177 == (64 : Int) else false then n181 == (1 : Int) else false then n185 == (0 : Int) else false)) [] []
      have F := ex_fin h1 h2 h3 h4 h5 h50 h51 h53 h54 h55 h57 h58 h59 h60 h61 h62
      exact absurd F.2.2.2.1 (c63 F.1 F.2.1 F.2.2.1)
  refine ⟨by first | omega | (dsimp only; omega), ?_⟩ -- (0 : Int) ≤ (1 : Int) ∧ (1 : Int) ≤ (255 : Int)
  intro ys_187
  intro q_188
  intro h66 -- ys_187 = List.replicate (64 : Nat) (UInt8.ofNat (Int.toNat (1 : Int)))
  intro h67 -- ys_187.length = q_188
  refine ⟨by first | omega | (dsimp only; omega), ?_⟩ -- (0 : Int) ≤ (1 : Int) ∧ (1 : Int) ≤ (255 : Int)
  intro ys_191
  intro q_192
  intro h68 -- ys_191 = List.replicate (64 : Nat) (UInt8.ofNat (Int.toNat (1 : Int)))
  intro h69 -- ys_191.length = q_192
  refine ⟨?_, ?_⟩
  · -- left
    have h70 : (List.take q_3 (List.drop (0 : Nat) ys_2)).length ≤ (1000000 : Nat) := by
      have z : (newO 2).length = 128 := by decide +kernel
      rw [← h2] at z
      rw [List.length_take, List.length_drop]
      omega
    refine ⟨h70, ?_⟩
    -- (List.take (2 : Nat) (List.drop (0 : Nat) [{ n := (0 : Int), data := List.take q_188 (List.drop (0 : Nat) ys_187) : Put }, { n := (1 : Int), data := List.take q_192 (List.drop (0 : Nat) ys_191) : Put }])).length ≤ (1000000 : Nat)
    simp
  intro e_195
  intro ys_196
  intro n_197
  intro h71 -- e_195 = doE (List.take q_3 (List.drop (0 : Nat) ys_2)) (List.take (2 : Nat) (List.drop (0 : Nat) [{ n := (0 : Int), data := List.take q_188 (List.drop (0 : Nat) ys_187) : Put }, { n := (1 : Int), data := List.take q_192 (List.drop (0 : Nat) ys_191) : Put }])) (1 : Int) (2 : Int)
  intro h72 -- ys_196 = doO (List.take q_3 (List.drop (0 : Nat) ys_2)) (List.take (2 : Nat) (List.drop (0 : Nat) [{ n := (0 : Int), data := List.take q_188 (List.drop (0 : Nat) ys_187) : Put }, { n := (1 : Int), data := List.take q_192 (List.drop (0 : Nat) ys_191) : Put }])) (1 : Int) (2 : Int)
  intro h73 -- ys_196.length = n_197
  have h74 : (List.take n_197 (List.drop (0 : Nat) ys_196)).length ≤ (1000000 : Nat) := by
    have z := ex_L
    rw [← ex_D h2 h3 h66 h67 h68 h69 h72] at z
    rw [List.length_take, List.length_drop]
    omega
  refine ⟨h74, ?_⟩
  intro e_201
  intro ys_202
  intro q_203
  intro h75 -- e_201 = askE (List.take n_197 (List.drop (0 : Nat) ys_196)) (0 : Int)
  intro h76 -- ys_202 = rdO (List.take n_197 (List.drop (0 : Nat) ys_196)) (0 : Int)
  intro h77 -- ys_202.length = q_203
  refine ⟨by assumption, ?_⟩ -- (List.take n_197 (List.drop (0 : Nat) ys_196)).length ≤ (1000000 : Nat)
  intro e_207
  intro ys_208
  intro q_209
  intro h78 -- e_207 = askE (List.take n_197 (List.drop (0 : Nat) ys_196)) (1 : Int)
  intro h79 -- ys_208 = rdO (List.take n_197 (List.drop (0 : Nat) ys_196)) (1 : Int)
  intro h80 -- ys_208.length = q_209
  refine br_intro (fun c81 => ?_) (fun c81 => ?_) -- bif bif bif e_1 == (0 : Int) then e_195 == (0 : Int) else false then e_201 == (0 : Int) else false then e_207 == (0 : Int) else false
  · -- yes
    simp at c81 -- ((e_1 = (0 : Int) ∧ e_195 = (0 : Int)) ∧ e_201 = (0 : Int)) ∧ e_207 = (0 : Int)
    refine ⟨by first | omega | (dsimp only; omega), ?_⟩ -- (0 : Int) ≤ (1 : Int) ∧ (1 : Int) ≤ (255 : Int)
    intro ys_213
    intro q_214
    intro h82 -- ys_213 = List.replicate (64 : Nat) (UInt8.ofNat (Int.toNat (1 : Int)))
    intro h83 -- ys_213.length = q_214
    intro n217
    intro q217 -- n217 = (↑q_209 : Int)
    refine ⟨?_, ?_⟩
    · -- left
      intro q217 -- (bif bif true then { data := (List.take q_203 (List.drop (0 : Nat) ys_202)).toArray : ByteArray }.data.toList == { data := (List.take q_214 (List.drop (0 : Nat) ys_213)).toArray : ByteArray }.data.toList else false then n217 == (64 : Int) else false) = true
      simp at q217 -- List.take q_203 ys_202 = List.take q_214 ys_213 ∧ n217 = (64 : Int)
      refine ⟨by first | omega | (dsimp only; omega), ?_⟩ -- (0 : Int) ≤ (1 : Int)
      exact by omega -- (1 : Int) < (↑q_209 : Int)
    refine ⟨?_, ?_⟩
    · -- left
      intro q217 -- (bif bif true then { data := (List.take q_203 (List.drop (0 : Nat) ys_202)).toArray : ByteArray }.data.toList == { data := (List.take q_214 (List.drop (0 : Nat) ys_213)).toArray : ByteArray }.data.toList else false then n217 == (64 : Int) else false) = true
      simp at q217 -- List.take q_203 ys_202 = List.take q_214 ys_213 ∧ n217 = (64 : Int)
      exact by omega -- (0 : Nat) + Int.toNat (1 : Int) < ys_208.length
    intro n221
    intro q221 -- n221 = (↑(ys_208.getD ((0 : Nat) + Int.toNat (1 : Int)) (0 : UInt8)).toNat : Int)
    refine ⟨?_, ?_⟩
    · -- left
      intro q221 -- (bif bif bif true then { data := (List.take q_203 (List.drop (0 : Nat) ys_202)).toArray : ByteArray }.data.toList == { data := (List.take q_214 (List.drop (0 : Nat) ys_213)).toArray : ByteArray }.data.toList else false then n217 == (64 : Int) else false then n221 == (1 : Int) else false) = true
      simp at q221 -- (List.take q_203 ys_202 = List.take q_214 ys_213 ∧ n217 = (64 : Int)) ∧ n221 = (1 : Int)
      refine ⟨by first | omega | (dsimp only; omega), ?_⟩ -- (0 : Int) ≤ (2 : Int)
      exact by omega -- (2 : Int) < (↑q_209 : Int)
    refine ⟨?_, ?_⟩
    · -- left
      intro q221 -- (bif bif bif true then { data := (List.take q_203 (List.drop (0 : Nat) ys_202)).toArray : ByteArray }.data.toList == { data := (List.take q_214 (List.drop (0 : Nat) ys_213)).toArray : ByteArray }.data.toList else false then n217 == (64 : Int) else false then n221 == (1 : Int) else false) = true
      simp at q221 -- (List.take q_203 ys_202 = List.take q_214 ys_213 ∧ n217 = (64 : Int)) ∧ n221 = (1 : Int)
      exact by omega -- (0 : Nat) + Int.toNat (2 : Int) < ys_208.length
    intro n225
    intro q225 -- n225 = (↑(ys_208.getD ((0 : Nat) + Int.toNat (2 : Int)) (0 : UInt8)).toNat : Int)
    -- k (AV.bool (bif bif bif bif true then { data := (List.take q_203 (List.drop (0 : Nat) ys_202)).toArray : ByteArray }.data.toList == { data := (List.take q_214 (List.drop (0 : Nat) ys_213)).toArray : ByteArray }.data.toList else false then n217 == (64 : Int) else false then n221 == (1 : Int) else false then n225 == (0 : Int) else false)) [] []
    have F := ex_fin h1 h2 h3 h66 h67 h68 h69 h71 h72 h73 h75 h76 h77 h78 h79 h80
    obtain ⟨-, -, -, -, f5, f6, f7, f8⟩ := F
    have g5 : List.take q_214 (List.drop 0 ys_213) = one64 := by rw [← h83, List.drop_zero, List.take_length, h82]; rfl
    have g6 : n217 = 64 := by omega
    have g7 : n221 = 1 := by rw [q221]; show ((ys_208.getD 1 0).toNat : Int) = 1; rw [f7]; rfl
    have g8 : n225 = 0 := by rw [q225]; show ((ys_208.getD 2 0).toNat : Int) = 0; rw [f8]; rfl
    exact k_true hk (by rw [f5, g5, g6, g7, g8]; generalize one64 = u; simp)
  · -- no
    simp at c81 -- e_1 = (0 : Int) → e_195 = (0 : Int) → e_201 = (0 : Int) → ¬e_207 = (0 : Int)
    refine ⟨by with_reducible rfl, ?_⟩ -- false = false
    intro n227
    intro q227 -- n227 = (↑q_209 : Int)
    refine ⟨?_, ?_⟩
    · -- left
      intro q227 -- (bif false then n227 == (64 : Int) else false) = true
      simp at q227
    refine ⟨?_, ?_⟩
    · -- left
      intro q227 -- (bif false then n227 == (64 : Int) else false) = true
      simp at q227
    intro n231
    intro q231 -- n231 = (↑(ys_208.getD ((0 : Nat) + Int.toNat (1 : Int)) (0 : UInt8)).toNat : Int)
    refine ⟨?_, ?_⟩
    · -- left
      intro q231 -- (bif bif false then n227 == (64 : Int) else false then n231 == (1 : Int) else false) = true
      simp at q231
    refine ⟨?_, ?_⟩
    · -- left
      intro q231 -- (bif bif false then n227 == (64 : Int) else false then n231 == (1 : Int) else false) = true
      simp at q231
    intro n235
    intro q235 -- n235 = (↑(ys_208.getD ((0 : Nat) + Int.toNat (2 : Int)) (0 : UInt8)).toNat : Int)
    -- k (AV.bool (bif bif bif false then n227 == (64 : Int) else false then n231 == (1 : Int) else false then n235 == (0 : Int) else false)) [] []
    have F := ex_fin h1 h2 h3 h66 h67 h68 h69 h71 h72 h73 h75 h76 h77 h78 h79 h80
    exact absurd F.2.2.2.1 (c81 F.1 F.2.1 F.2.2.1)

theorem alive_ok : Holds Try.prog 8 alvS := by
  refine fn_sound (env := mkEnv N7) (tab_ok N7_ok) Try.func8 Try.call8 fun args k h => ?_
  match args, h with
  | [], h => exact ⟨by kernel_rfl, fun _ _ => none, fun _ _ => none, .cast (by kernel_rfl) (alive_vc  k h)⟩
end Go.Proofs.Ytiekaipompepdaa

