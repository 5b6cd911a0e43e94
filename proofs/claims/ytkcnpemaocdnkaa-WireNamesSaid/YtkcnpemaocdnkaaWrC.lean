import Derived.Test.YtkcnpemaocdnkaaWrB
namespace Go.Proofs.Ytkcnpemaocdnkaa
open Go Go.Eng Go.Wr Go.Proofs
set_option linter.unusedVariables false
set_option maxHeartbeats 2000000 in
theorem clone_vc (xs : List UInt8) (hx : xs.length ≤ (1000000 : Nat)) (k : AV → List (Option Blk) → List Blk → Prop) (hk : (xs = [] → k AV.nilsl [] []) ∧ k (AV.row (0 : Nat) (0 : Nat) (0 : Nat) xs.length) [] [Blk.row (0 : Nat) xs]) :
  ∀ (b_1 : Bool),
  ((b_1 = true) →
   (xs = [])) →
  br (b_1)
   ((k AV.nilsl [] []))
   ((((0 : Nat) + xs.length) * (1 : Nat) ≤ (140737488355328 : Nat)) ∧
    ∀ (z3 : List UInt8),
    (z3 = List.take (0 : Nat) [] ++ xs) →
    (k (AV.row (0 : Nat) (0 : Nat) (0 : Nat) ((0 : Nat) + xs.length)) [] [Blk.row (0 : Nat) z3])) := by
  intro b_1
  intro h1 -- b_1 = true → xs = []
  refine br_intro (fun c2 => ?_) (fun c2 => ?_) -- b_1
  · -- yes
    -- k AV.nilsl [] []
    exact hk.1 (h1 c2)
  · -- no
    refine ⟨by first | omega | (dsimp only; omega), ?_⟩ -- ((0 : Nat) + xs.length) * (1 : Nat) ≤ (140737488355328 : Nat)
    intro z3
    intro qz3 -- z3 = List.take (0 : Nat) [] ++ xs
    -- k (AV.row (0 : Nat) (0 : Nat) (0 : Nat) ((0 : Nat) + xs.length)) [] [Blk.row (0 : Nat) z3]
    rw [qz3, Nat.zero_add]; exact hk.2

theorem clone_ok : Holds Try.prog 18 clone0S := by
  refine fn_sound (env := mkEnv T0) (tab_ok T0_ok) Try.func18 Try.call18 fun args k h => ?_
  match args, h with
  | [.sl 0 xs], h => exact ⟨by kernel_rfl, fun _ _ => none, fun _ _ => none, .cast (by kernel_rfl) (clone_vc xs h.1 k h.2)⟩
theorem cloneR_ok : Holds Try.prog 18 cloneS := clone_ok.nl 0 rfl rfl rfl fun args k h => by
  unfold cloneS at h
  dsimp only at h
  split at h
  · exact ⟨h.1, fun e => by subst e; exact h.2, h.2⟩
  · exact h.elim
def cloneN : Eng.Spec := { cloneS with run := fun args B k => cloneS.run (args.map nilB) B k }
theorem cloneN_ok : Holds Try.prog 18 cloneN := cloneR_ok.nil
theorem T1_ok : TabOk Try.prog T1 := ⟨cloneR_ok, trivial⟩
set_option maxHeartbeats 2000000 in
theorem wnext_vc (held : List UInt8) (ins : List UInt8) (what : Int) (what0 : (0 : Int) ≤ what) (what1 : what ≤ (255 : Int)) (p : Int) (p0 : (-9223372036854775808 : Int) ≤ p) (p1 : p ≤ (9223372036854775807 : Int)) (k : AV → List (Option Blk) → List Blk → Prop) (hk : (∀ (e : Int), e = wE held.length ins.length what p → e = (2 : Int) ∨ e = (3 : Int) → k (AV.tup [AV.nilsl, AV.nilsl, AV.int IntKind.i64 e]) [] []) ∧ (wE held.length ins.length what p = (0 : Int) → what = (3 : Int) → k (AV.tup [AV.row (0 : Nat) (0 : Nat) (0 : Nat) held.length, AV.row (0 : Nat) (1 : Nat) (0 : Nat) ins.length, AV.int IntKind.i64 (0 : Int)]) [] [Blk.row (0 : Nat) held, Blk.row (0 : Nat) ins]) ∧ (wE held.length ins.length what p = (0 : Int) → what ≠ (3 : Int) → ∀ (ys : List UInt8) (n : Nat), ys = held ++ wOut ins what p → ys.length = n → k (AV.tup [AV.row (0 : Nat) (0 : Nat) (0 : Nat) n, AV.nilsl, AV.int IntKind.i64 (0 : Int)]) [] [Blk.row (0 : Nat) ys])) :
  ∀ (n1 : Int),
  (n1 = (↑held.length : Int)) →
  ((-9223372036854775808 : Int) ≤ n1 ∧ n1 ≤ (9223372036854775807 : Int)) →
  ∀ (n4 : Int),
  (n4 = (↑ins.length : Int)) →
  br (bif decide (n1 > (16384 : Int)) then true else decide (n4 > (16384 : Int)))
   ((k (AV.tup [AV.nilsl, AV.nilsl, AV.int IntKind.i64 (3 : Int)]) [] []))
   (br (decide (what > (4 : Int)))
     (br (decide (what > (4 : Int)))
       ((k (AV.tup [AV.nilsl, AV.nilsl, AV.int IntKind.i64 (2 : Int)]) [] []))
       ((held.length ≤ (1000000 : Nat)) ∧
        br (what == (3 : Int))
         ((ins.length ≤ (1000000 : Nat)) ∧
          (k (AV.tup [AV.row (0 : Nat) (0 : Nat) (0 : Nat) held.length, AV.row (0 : Nat) (1 : Nat) (0 : Nat) ins.length, AV.int IntKind.i64 (0 : Int)]) [] [Blk.row (0 : Nat) held, Blk.row (0 : Nat) ins]))
         (br (what == (2 : Int))
           (((held.length + ins.length) * (1 : Nat) ≤ (140737488355328 : Nat)) ∧
            ∀ (z6 : List UInt8),
            (z6 = List.take held.length held ++ ins) →
            ((held.length + ins.length + ins.length) * (1 : Nat) ≤ (140737488355328 : Nat)) ∧
            ∀ (z8 : List UInt8),
            (z8 = List.take (held.length + ins.length) z6 ++ ins) →
            (k (AV.tup [AV.row (0 : Nat) (0 : Nat) (0 : Nat) (held.length + ins.length + ins.length), AV.nilsl, AV.int IntKind.i64 (0 : Int)]) [] [Blk.row (0 : Nat) z8]))
           (br (what == (0 : Int))
             (((held.length + ins.length) * (1 : Nat) ≤ (140737488355328 : Nat)) ∧
              ∀ (z10 : List UInt8),
              (z10 = List.take held.length held ++ ins) →
              (k (AV.tup [AV.row (0 : Nat) (0 : Nat) (0 : Nat) (held.length + ins.length), AV.nilsl, AV.int IntKind.i64 (0 : Int)]) [] [Blk.row (0 : Nat) z10]))
             (br (what == (4 : Int))
               (((held.length + ins.length) * (1 : Nat) ≤ (140737488355328 : Nat)) ∧
                ∀ (z12 : List UInt8),
                (z12 = List.take held.length held ++ ins) →
                ∀ (n14 : Int),
                (n14 = (↑ins.length : Int)) →
                ((-9223372036854775808 : Int) ≤ n14 ∧ n14 ≤ (9223372036854775807 : Int)) →
                br (decide (n14 > (0 : Int)))
                 (∀ (n17 : Int),
                  (n17 = (↑held.length : Int)) →
                  ((-9223372036854775808 : Int) ≤ n17 ∧ n17 ≤ (9223372036854775807 : Int)) →
                  ∀ (n20 : Int),
                  (n20 = (↑ins.length : Int)) →
                  ((-9223372036854775808 : Int) ≤ n20 ∧ n20 ≤ (9223372036854775807 : Int)) →
                  (n20 ≠ (0 : Int)) ∧
                  ∀ (n23 : Int),
                  (n23 = p.tmod n20) →
                  ((-9223372036854775808 : Int) ≤ n23 ∧ n23 ≤ (9223372036854775807 : Int)) →
                  ∀ (n26 : Int),
                  (n26 = IntKind.i64.wrap (n17 + n23)) →
                  ((-9223372036854775808 : Int) ≤ n26 ∧ n26 ≤ (9223372036854775807 : Int)) →
                  ((0 : Int) ≤ n26) ∧
                  (n26 < (↑(held.length + ins.length) : Int)) ∧
                  ((0 : Nat) + n26.toNat < z12.length) ∧
                  ∀ (n29 : Int),
                  (n29 = (↑(z12.getD ((0 : Nat) + n26.toNat) (0 : UInt8)).toNat : Int)) →
                  ((0 : Int) ≤ n29 ∧ n29 ≤ (255 : Int)) →
                  ∀ (n32 : Int),
                  (n32 = bits BinOp.xor IntKind.u8 n29 (255 : Int)) →
                  ((0 : Int) ≤ n32 ∧ n32 ≤ (255 : Int)) →
                  ((0 : Int) ≤ n26) ∧
                  (n26 < (↑(held.length + ins.length) : Int)) ∧
                  ((0 : Nat) + n26.toNat < z12.length) ∧
                  ∀ (z35 : List UInt8),
                  (z35 = z12.set ((0 : Nat) + n26.toNat) (UInt8.ofNat n32.toNat)) →
                  (k (AV.tup [AV.row (0 : Nat) (0 : Nat) (0 : Nat) (held.length + ins.length), AV.nilsl, AV.int IntKind.i64 (0 : Int)]) [] [Blk.row (0 : Nat) z35]))
                 ((k (AV.tup [AV.row (0 : Nat) (0 : Nat) (0 : Nat) (held.length + ins.length), AV.nilsl, AV.int IntKind.i64 (0 : Int)]) [] [Blk.row (0 : Nat) z12])))
               ((k (AV.tup [AV.row (0 : Nat) (0 : Nat) (0 : Nat) held.length, AV.nilsl, AV.int IntKind.i64 (0 : Int)]) [] [Blk.row (0 : Nat) held])))))))
     (br (decide (p < (0 : Int)))
       ((k (AV.tup [AV.nilsl, AV.nilsl, AV.int IntKind.i64 (2 : Int)]) [] []))
       ((held.length ≤ (1000000 : Nat)) ∧
        br (what == (3 : Int))
         ((ins.length ≤ (1000000 : Nat)) ∧
          (k (AV.tup [AV.row (0 : Nat) (0 : Nat) (0 : Nat) held.length, AV.row (0 : Nat) (1 : Nat) (0 : Nat) ins.length, AV.int IntKind.i64 (0 : Int)]) [] [Blk.row (0 : Nat) held, Blk.row (0 : Nat) ins]))
         (br (what == (2 : Int))
           (((held.length + ins.length) * (1 : Nat) ≤ (140737488355328 : Nat)) ∧
            ∀ (z37 : List UInt8),
            (z37 = List.take held.length held ++ ins) →
            ((held.length + ins.length + ins.length) * (1 : Nat) ≤ (140737488355328 : Nat)) ∧
            ∀ (z39 : List UInt8),
            (z39 = List.take (held.length + ins.length) z37 ++ ins) →
            (k (AV.tup [AV.row (0 : Nat) (0 : Nat) (0 : Nat) (held.length + ins.length + ins.length), AV.nilsl, AV.int IntKind.i64 (0 : Int)]) [] [Blk.row (0 : Nat) z39]))
           (br (what == (0 : Int))
             (((held.length + ins.length) * (1 : Nat) ≤ (140737488355328 : Nat)) ∧
              ∀ (z41 : List UInt8),
              (z41 = List.take held.length held ++ ins) →
              (k (AV.tup [AV.row (0 : Nat) (0 : Nat) (0 : Nat) (held.length + ins.length), AV.nilsl, AV.int IntKind.i64 (0 : Int)]) [] [Blk.row (0 : Nat) z41]))
             (br (what == (4 : Int))
               (((held.length + ins.length) * (1 : Nat) ≤ (140737488355328 : Nat)) ∧
                ∀ (z43 : List UInt8),
                (z43 = List.take held.length held ++ ins) →
                ∀ (n45 : Int),
                (n45 = (↑ins.length : Int)) →
                ((-9223372036854775808 : Int) ≤ n45 ∧ n45 ≤ (9223372036854775807 : Int)) →
                br (decide (n45 > (0 : Int)))
                 (∀ (n48 : Int),
                  (n48 = (↑held.length : Int)) →
                  ((-9223372036854775808 : Int) ≤ n48 ∧ n48 ≤ (9223372036854775807 : Int)) →
                  ∀ (n51 : Int),
                  (n51 = (↑ins.length : Int)) →
                  ((-9223372036854775808 : Int) ≤ n51 ∧ n51 ≤ (9223372036854775807 : Int)) →
                  (n51 ≠ (0 : Int)) ∧
                  ∀ (n54 : Int),
                  (n54 = p.tmod n51) →
                  ((-9223372036854775808 : Int) ≤ n54 ∧ n54 ≤ (9223372036854775807 : Int)) →
                  ∀ (n57 : Int),
                  (n57 = IntKind.i64.wrap (n48 + n54)) →
                  ((-9223372036854775808 : Int) ≤ n57 ∧ n57 ≤ (9223372036854775807 : Int)) →
                  ((0 : Int) ≤ n57) ∧
                  (n57 < (↑(held.length + ins.length) : Int)) ∧
                  ((0 : Nat) + n57.toNat < z43.length) ∧
                  ∀ (n60 : Int),
                  (n60 = (↑(z43.getD ((0 : Nat) + n57.toNat) (0 : UInt8)).toNat : Int)) →
                  ((0 : Int) ≤ n60 ∧ n60 ≤ (255 : Int)) →
                  ∀ (n63 : Int),
                  (n63 = bits BinOp.xor IntKind.u8 n60 (255 : Int)) →
                  ((0 : Int) ≤ n63 ∧ n63 ≤ (255 : Int)) →
                  ((0 : Int) ≤ n57) ∧
                  (n57 < (↑(held.length + ins.length) : Int)) ∧
                  ((0 : Nat) + n57.toNat < z43.length) ∧
                  ∀ (z66 : List UInt8),
                  (z66 = z43.set ((0 : Nat) + n57.toNat) (UInt8.ofNat n63.toNat)) →
                  (k (AV.tup [AV.row (0 : Nat) (0 : Nat) (0 : Nat) (held.length + ins.length), AV.nilsl, AV.int IntKind.i64 (0 : Int)]) [] [Blk.row (0 : Nat) z66]))
                 ((k (AV.tup [AV.row (0 : Nat) (0 : Nat) (0 : Nat) (held.length + ins.length), AV.nilsl, AV.int IntKind.i64 (0 : Int)]) [] [Blk.row (0 : Nat) z43])))
               ((k (AV.tup [AV.row (0 : Nat) (0 : Nat) (0 : Nat) held.length, AV.nilsl, AV.int IntKind.i64 (0 : Int)]) [] [Blk.row (0 : Nat) held])))))))) := by
  intro n1
  intro q1 -- n1 = (↑held.length : Int)
  intro ⟨l1, u1⟩ -- (-9223372036854775808 : Int) ≤ n1 ∧ n1 ≤ (9223372036854775807 : Int)
  intro n4
  intro q4 -- n4 = (↑ins.length : Int)
  refine br_intro (fun c1 => ?_) (fun c1 => ?_) -- bif decide (n1 > (16384 : Int)) then true else decide (n4 > (16384 : Int))
  · -- yes
    simp at c1 -- (16384 : Int) < n1 ∨ (16384 : Int) < n4
    -- k (AV.tup [AV.nilsl, AV.nilsl, AV.int IntKind.i64 (3 : Int)]) [] []
    exact hk.1 3 (by unfold wE; rw [if_pos (by omega)]) (.inr rfl)
  · -- no
    simp at c1 -- n1 ≤ (16384 : Int) ∧ n4 ≤ (16384 : Int)
    refine brd (fun c2 => ?_) (fun c2 => ?_) -- decide (what > (4 : Int))
    · -- yes
      refine brd (fun c3 => ?_) (fun c3 => ?_) -- decide (what > (4 : Int))
      · -- yes
        -- k (AV.tup [AV.nilsl, AV.nilsl, AV.int IntKind.i64 (2 : Int)]) [] []
        exact hk.1 2 (by unfold wE; rw [if_neg (by omega), if_pos (by omega)]) (.inl rfl)
      · -- no
        exfalso; omega
    · -- no
      refine brd (fun c4 => ?_) (fun c4 => ?_) -- decide (p < (0 : Int))
      · -- yes
        -- k (AV.tup [AV.nilsl, AV.nilsl, AV.int IntKind.i64 (2 : Int)]) [] []
        exact hk.1 2 (by unfold wE; rw [if_neg (by omega), if_pos (by omega)]) (.inl rfl)
      · -- no
        refine ⟨by first | omega | (dsimp only; omega), ?_⟩ -- held.length ≤ (1000000 : Nat)
        refine br_intro (fun c5 => ?_) (fun c5 => ?_) -- what == (3 : Int)
        · -- yes
          simp at c5 -- what = (3 : Int)
          refine ⟨by first | omega | (dsimp only; omega), ?_⟩ -- ins.length ≤ (1000000 : Nat)
          -- k (AV.tup [AV.row (0 : Nat) (0 : Nat) (0 : Nat) held.length, AV.row (0 : Nat) (1 : Nat) (0 : Nat) ins.length, AV.int IntKind.i64 (0 : Int)]) [] [Blk.row (0 : Nat) held, Blk.row (0 : Nat) ins]
          exact hk.2.1 (by unfold wE; rw [if_neg (by omega), if_neg (by omega)]) c5
        · -- no
          simp at c5 -- ¬what = (3 : Int)
          refine br_intro (fun c6 => ?_) (fun c6 => ?_) -- what == (2 : Int)
          · -- yes
            simp at c6 -- what = (2 : Int)
            refine ⟨by first | omega | (dsimp only; omega), ?_⟩ -- (held.length + ins.length) * (1 : Nat) ≤ (140737488355328 : Nat)
            intro z37
            intro qz37 -- z37 = List.take held.length held ++ ins
            refine ⟨by first | omega | (dsimp only; omega), ?_⟩ -- (held.length + ins.length + ins.length) * (1 : Nat) ≤ (140737488355328 : Nat)
            intro z39
            intro qz39 -- z39 = List.take (held.length + ins.length) z37 ++ ins
            -- k (AV.tup [AV.row (0 : Nat) (0 : Nat) (0 : Nat) (held.length + ins.length + ins.length), AV.nilsl, AV.int IntKind.i64 (0 : Int)]) [] [Blk.row (0 : Nat) z39]
            exact hk.2.2 (by unfold wE; rw [if_neg (by omega), if_neg (by omega)]) c5 _ _ (by rw [qz39, qz37, List.take_of_length_le (Nat.le_refl _), List.take_of_length_le (by simp), List.append_assoc]; unfold wOut; rw [if_neg (by omega), if_pos c6]) (by rw [qz39, qz37]; simp; try omega)
          · -- no
            simp at c6 -- ¬what = (2 : Int)
            refine br_intro (fun c7 => ?_) (fun c7 => ?_) -- what == (0 : Int)
            · -- yes
              simp at c7 -- what = (0 : Int)
              refine ⟨by first | omega | (dsimp only; omega), ?_⟩ -- (held.length + ins.length) * (1 : Nat) ≤ (140737488355328 : Nat)
              intro z41
              intro qz41 -- z41 = List.take held.length held ++ ins
              -- k (AV.tup [AV.row (0 : Nat) (0 : Nat) (0 : Nat) (held.length + ins.length), AV.nilsl, AV.int IntKind.i64 (0 : Int)]) [] [Blk.row (0 : Nat) z41]
              exact hk.2.2 (by unfold wE; rw [if_neg (by omega), if_neg (by omega)]) c5 _ _ (by rw [qz41, List.take_of_length_le (Nat.le_refl _)]; unfold wOut; rw [if_pos c7]) (by rw [qz41]; simp)
            · -- no
              simp at c7 -- ¬what = (0 : Int)
              refine br_intro (fun c8 => ?_) (fun c8 => ?_) -- what == (4 : Int)
              · -- yes
                simp at c8 -- what = (4 : Int)
                refine ⟨by first | omega | (dsimp only; omega), ?_⟩ -- (held.length + ins.length) * (1 : Nat) ≤ (140737488355328 : Nat)
                intro z43
                intro qz43 -- z43 = List.take held.length held ++ ins
                intro n45
                intro q45 -- n45 = (↑ins.length : Int)
                intro ⟨l45, u45⟩ -- (-9223372036854775808 : Int) ≤ n45 ∧ n45 ≤ (9223372036854775807 : Int)
                refine brd (fun c9 => ?_) (fun c9 => ?_) -- decide (n45 > (0 : Int))
                · -- yes
                  intro n48
                  intro q48 -- n48 = (↑held.length : Int)
                  intro ⟨l48, u48⟩ -- (-9223372036854775808 : Int) ≤ n48 ∧ n48 ≤ (9223372036854775807 : Int)
                  intro n51
                  intro q51 -- n51 = (↑ins.length : Int)
                  intro ⟨l51, u51⟩ -- (-9223372036854775808 : Int) ≤ n51 ∧ n51 ≤ (9223372036854775807 : Int)
                  refine ⟨by first | omega | (dsimp only; omega), ?_⟩ -- n51 ≠ (0 : Int)
                  intro n54
                  intro q54 -- n54 = p.tmod n51
                  rw [Int.tmod_eq_emod_of_nonneg (by omega)] at q54
                  intro ⟨l54, u54⟩ -- (-9223372036854775808 : Int) ≤ n54 ∧ n54 ≤ (9223372036854775807 : Int)
                  intro n57
                  intro q57 -- n57 = IntKind.i64.wrap (n48 + n54)
                  rw [IntKind.wrap_i64] at q57
                  intro ⟨l57, u57⟩ -- (-9223372036854775808 : Int) ≤ n57 ∧ n57 ≤ (9223372036854775807 : Int)
                  have h10 : (0 : Int) ≤ n57 := by
                    have a := Int.emod_nonneg p (show n51 ≠ 0 by omega)
                    have b := Int.emod_lt_of_pos p (show 0 < n51 by omega)
                    omega
                  refine ⟨h10, ?_⟩
                  have h11 : n57 < (↑(held.length + ins.length) : Int) := by
                    have a := Int.emod_nonneg p (show n51 ≠ 0 by omega)
                    have b := Int.emod_lt_of_pos p (show 0 < n51 by omega)
                    omega
                  refine ⟨h11, ?_⟩
                  have h12 : (0 : Nat) + n57.toNat < z43.length := by
                    have a := Int.emod_nonneg p (show n51 ≠ 0 by omega)
                    have b := Int.emod_lt_of_pos p (show 0 < n51 by omega)
                    rw [qz43]; simp; omega
                  refine ⟨h12, ?_⟩
                  intro n60
                  intro q60 -- n60 = (↑(z43.getD ((0 : Nat) + n57.toNat) (0 : UInt8)).toNat : Int)
                  intro ⟨l60, u60⟩ -- (0 : Int) ≤ n60 ∧ n60 ≤ (255 : Int)
                  intro n63
                  intro q63 -- n63 = bits BinOp.xor IntKind.u8 n60 (255 : Int)
                  rw [xor_u8 _ _ (by omega) (by omega) (by omega) (by omega)] at q63
                  intro ⟨l63, u63⟩ -- (0 : Int) ≤ n63 ∧ n63 ≤ (255 : Int)
                  refine ⟨by assumption, ?_⟩ -- (0 : Int) ≤ n57
                  refine ⟨by assumption, ?_⟩ -- n57 < (↑(held.length + ins.length) : Int)
                  refine ⟨by assumption, ?_⟩ -- (0 : Nat) + n57.toNat < z43.length
                  intro z66
                  intro qz66 -- z66 = z43.set ((0 : Nat) + n57.toNat) (UInt8.ofNat n63.toNat)
                  -- k (AV.tup [AV.row (0 : Nat) (0 : Nat) (0 : Nat) (held.length + ins.length), AV.nilsl, AV.int IntKind.i64 (0 : Int)]) [] [Blk.row (0 : Nat) z66]
                  have a := Int.emod_nonneg p (show n51 ≠ 0 by omega)
                  have b := Int.emod_lt_of_pos p (show 0 < n51 by omega)
                  have hne : ins ≠ [] := fun e => by rw [e] at q45; simp at q45; omega
                  have e : z66 = held ++ turn ins p := by
                    rw [qz66, q63, q60, xor_u8b, qz43, List.take_of_length_le (Nat.le_refl _), Nat.zero_add]
                    exact turn_set hne (by rw [← q51, ← q54]; omega)
                  exact hk.2.2 (by unfold wE; rw [if_neg (by omega), if_neg (by omega)]) c5 _ _ (by rw [e]; unfold wOut; rw [if_neg c7, if_neg c6, if_pos c8]) (by rw [e]; simp [turn_length])
                · -- no
                  -- k (AV.tup [AV.row (0 : Nat) (0 : Nat) (0 : Nat) (held.length + ins.length), AV.nilsl, AV.int IntKind.i64 (0 : Int)]) [] [Blk.row (0 : Nat) z43]
                  have e : ins = [] := List.length_eq_zero_iff.1 (by omega)
                  exact hk.2.2 (by unfold wE; rw [if_neg (by omega), if_neg (by omega)]) c5 _ _ (by rw [qz43, List.take_of_length_le (Nat.le_refl _)]; unfold wOut; rw [if_neg c7, if_neg c6, if_pos c8, e]; rfl) (by rw [qz43]; simp)
              · -- no
                simp at c8 -- ¬what = (4 : Int)
                -- k (AV.tup [AV.row (0 : Nat) (0 : Nat) (0 : Nat) held.length, AV.nilsl, AV.int IntKind.i64 (0 : Int)]) [] [Blk.row (0 : Nat) held]
                exact hk.2.2 (by unfold wE; rw [if_neg (by omega), if_neg (by omega)]) c5 _ _ (by unfold wOut; rw [if_neg c7, if_neg c6, if_neg c8, List.append_nil]) rfl

theorem wnext_ok : Holds Try.prog 9 nextS := by
  refine fn_sound (env := mkEnv T1) (tab_ok T1_ok) Try.func9 Try.call9 fun args k h => ?_
  match args, h with
  | [.sl 0 held, .sl 0 ins, .int .u8 what, .int .i64 p], h => exact ⟨by kernel_rfl, fun _ _ => none, fun _ _ => none, .cast (by kernel_rfl) (wnext_vc held ins what h.1.1 h.1.2 p h.2.1.1 h.2.1.2 k h.2.2)⟩
set_option maxHeartbeats 2000000 in
theorem rnext_vc (held : List UInt8) (ins : List UInt8) (what : Int) (what0 : (0 : Int) ≤ what) (what1 : what ≤ (255 : Int)) (p : Int) (p0 : (-9223372036854775808 : Int) ≤ p) (p1 : p ≤ (9223372036854775807 : Int)) (k : AV → List (Option Blk) → List Blk → Prop) (hk : (∀ (e : Int), e = wE held.length ins.length what p → e = (2 : Int) ∨ e = (3 : Int) → k (AV.tup [AV.nilsl, AV.nilsl, AV.int IntKind.i64 e]) [] []) ∧ (wE held.length ins.length what p = (0 : Int) → what = (3 : Int) → k (AV.tup [AV.row (0 : Nat) (0 : Nat) (0 : Nat) held.length, AV.row (0 : Nat) (1 : Nat) (0 : Nat) ins.length, AV.int IntKind.i64 (0 : Int)]) [] [Blk.row (0 : Nat) held, Blk.row (0 : Nat) ins]) ∧ (wE held.length ins.length what p = (0 : Int) → what ≠ (3 : Int) → ∀ (ys : List UInt8) (n : Nat), ys = held ++ wOut ins what p → ys.length = n → k (AV.tup [AV.row (0 : Nat) (0 : Nat) (0 : Nat) n, AV.nilsl, AV.int IntKind.i64 (0 : Int)]) [] [Blk.row (0 : Nat) ys])) :
  ∀ (n1 : Int),
  (n1 = (↑held.length : Int)) →
  ((-9223372036854775808 : Int) ≤ n1 ∧ n1 ≤ (9223372036854775807 : Int)) →
  ∀ (n4 : Int),
  (n4 = (↑ins.length : Int)) →
  br (bif decide (n1 > (16384 : Int)) then true else decide (n4 > (16384 : Int)))
   ((k (AV.tup [AV.nilsl, AV.nilsl, AV.int IntKind.i64 (3 : Int)]) [] []))
   (br (bif decide (what > (4 : Int)) then true else decide (p < (0 : Int)))
     ((k (AV.tup [AV.nilsl, AV.nilsl, AV.int IntKind.i64 (2 : Int)]) [] []))
     ((held.length * (1 : Nat) ≤ (140737488355328 : Nat)) ∧
      ∀ (z6 : List UInt8),
      (z6 = held) →
      br (what == (3 : Int))
       ((ins.length * (1 : Nat) ≤ (140737488355328 : Nat)) ∧
        ∀ (z8 : List UInt8),
        (z8 = ins) →
        (k (AV.tup [AV.row (0 : Nat) (0 : Nat) (0 : Nat) held.length, AV.row (0 : Nat) (1 : Nat) (0 : Nat) ins.length, AV.int IntKind.i64 (0 : Int)]) [] [Blk.row (0 : Nat) z6, Blk.row (0 : Nat) z8]))
       (br (what == (1 : Int))
         ((k (AV.tup [AV.row (0 : Nat) (0 : Nat) (0 : Nat) held.length, AV.nilsl, AV.int IntKind.i64 (0 : Int)]) [] [Blk.row (0 : Nat) z6]))
         ((
           ∃ (v : Int × Nat × List UInt8),
           (ins = ins) ∧
           (what = what) ∧
           (p = p) ∧
           ((0 : Nat) = (0 : Nat)) ∧
           (held.length = v.snd.fst) ∧
           ((0 : Int) = v.fst) ∧
           (z6 = v.snd.snd) ∧
           (
            ((0 : Int) ≤ v.fst) ∧
            (v.fst ≤ (↑ins.length : Int))) ∧
           (v.snd.snd = held ++ rOut ins what p v.fst.toNat) ∧
           (v.snd.snd.length = v.snd.fst) ∧
           ((↑v.snd.fst : Int) = (↑held.length : Int) + v.fst)) ∧
          ∀ (v_10 : Int × Nat × List UInt8),
          (((0 : Int) ≤ v_10.fst ∧ v_10.fst ≤ (↑ins.length : Int)) ∧ v_10.snd.snd = held ++ rOut ins what p v_10.fst.toNat ∧ v_10.snd.snd.length = v_10.snd.fst ∧ (↑v_10.snd.fst : Int) = (↑held.length : Int) + v_10.fst) →
          ∀ (n12 : Int),
          (n12 = (↑ins.length : Int)) →
          ((-9223372036854775808 : Int) ≤ n12 ∧ n12 ≤ (9223372036854775807 : Int)) →
          br (decide (v_10.fst < n12))
           (∀ (n15 : Int),
            (n15 = (↑ins.length : Int)) →
            (
             ((what == (4 : Int)) = true) →
             (n15 ≠ (0 : Int))) ∧
            ∀ (n18 : Int),
            (n18 = p.tmod n15) →
            br (bif what == (4 : Int) then v_10.fst == n18 else false)
             (((0 : Int) ≤ v_10.fst) ∧
              (v_10.fst < (↑ins.length : Int)) ∧
              ∀ (n20 : Int),
              (n20 = (↑(ins.getD v_10.fst.toNat (0 : UInt8)).toNat : Int)) →
              ((0 : Int) ≤ n20 ∧ n20 ≤ (255 : Int)) →
              ∀ (n23 : Int),
              (n23 = IntKind.u8.wrap ((255 : Int) - n20)) →
              ((0 : Int) ≤ n23 ∧ n23 ≤ (255 : Int)) →
              ((v_10.snd.fst + (1 : Nat)) * (1 : Nat) ≤ (140737488355328 : Nat)) ∧
              ∀ (z26 : List UInt8),
              (z26 = List.take v_10.snd.fst v_10.snd.snd ++ List.take (1 : Nat) (List.drop (0 : Nat) [UInt8.ofNat n23.toNat])) →
              ∀ (n28 : Int),
              (n28 = IntKind.i64.wrap (v_10.fst + (1 : Int))) →
              ((-9223372036854775808 : Int) ≤ n28 ∧ n28 ≤ (9223372036854775807 : Int)) →
              ∃ (v' : Int × Nat × List UInt8),
              (ins = ins) ∧
              (what = what) ∧
              (p = p) ∧
              ((0 : Nat) = (0 : Nat)) ∧
              (v_10.snd.fst + (1 : Nat) = v'.snd.fst) ∧
              (n28 = v'.fst) ∧
              (z26 = v'.snd.snd) ∧
              (
               (
                ((0 : Int) ≤ v'.fst) ∧
                (v'.fst ≤ (↑ins.length : Int))) ∧
               (v'.snd.snd = held ++ rOut ins what p v'.fst.toNat) ∧
               (v'.snd.snd.length = v'.snd.fst) ∧
               ((↑v'.snd.fst : Int) = (↑held.length : Int) + v'.fst)) ∧
              (((↑ins.length : Int) - v'.fst).toNat < ((↑ins.length : Int) - v_10.fst).toNat))
             (((0 : Int) ≤ v_10.fst) ∧
              (v_10.fst < (↑ins.length : Int)) ∧
              ∀ (n31 : Int),
              (n31 = (↑(ins.getD v_10.fst.toNat (0 : UInt8)).toNat : Int)) →
              ((0 : Int) ≤ n31 ∧ n31 ≤ (255 : Int)) →
              ((v_10.snd.fst + (1 : Nat)) * (1 : Nat) ≤ (140737488355328 : Nat)) ∧
              ∀ (z34 : List UInt8),
              (z34 = List.take v_10.snd.fst v_10.snd.snd ++ List.take (1 : Nat) (List.drop (0 : Nat) [UInt8.ofNat n31.toNat])) →
              ∀ (n36 : Int),
              (n36 = IntKind.i64.wrap (v_10.fst + (1 : Int))) →
              ((-9223372036854775808 : Int) ≤ n36 ∧ n36 ≤ (9223372036854775807 : Int)) →
              ∃ (v' : Int × Nat × List UInt8),
              (ins = ins) ∧
              (what = what) ∧
              (p = p) ∧
              ((0 : Nat) = (0 : Nat)) ∧
              (v_10.snd.fst + (1 : Nat) = v'.snd.fst) ∧
              (n36 = v'.fst) ∧
              (z34 = v'.snd.snd) ∧
              (
               (
                ((0 : Int) ≤ v'.fst) ∧
                (v'.fst ≤ (↑ins.length : Int))) ∧
               (v'.snd.snd = held ++ rOut ins what p v'.fst.toNat) ∧
               (v'.snd.snd.length = v'.snd.fst) ∧
               ((↑v'.snd.fst : Int) = (↑held.length : Int) + v'.fst)) ∧
              (((↑ins.length : Int) - v'.fst).toNat < ((↑ins.length : Int) - v_10.fst).toNat)))
           (br (what == (2 : Int))
             (((v_10.snd.fst + ins.length) * (1 : Nat) ≤ (140737488355328 : Nat)) ∧
              ∀ (z39 : List UInt8),
              (z39 = List.take v_10.snd.fst v_10.snd.snd ++ ins) →
              (k (AV.tup [AV.row (0 : Nat) (0 : Nat) (0 : Nat) (v_10.snd.fst + ins.length), AV.nilsl, AV.int IntKind.i64 (0 : Int)]) [] [Blk.row (0 : Nat) z39]))
             ((k (AV.tup [AV.row (0 : Nat) (0 : Nat) (0 : Nat) v_10.snd.fst, AV.nilsl, AV.int IntKind.i64 (0 : Int)]) [] [Blk.row (0 : Nat) v_10.snd.snd]))))))) := by
  intro n1
  intro q1 -- n1 = (↑held.length : Int)
  intro ⟨l1, u1⟩ -- (-9223372036854775808 : Int) ≤ n1 ∧ n1 ≤ (9223372036854775807 : Int)
  intro n4
  intro q4 -- n4 = (↑ins.length : Int)
  refine br_intro (fun c1 => ?_) (fun c1 => ?_) -- bif decide (n1 > (16384 : Int)) then true else decide (n4 > (16384 : Int))
  · -- yes
    simp at c1 -- (16384 : Int) < n1 ∨ (16384 : Int) < n4
    -- k (AV.tup [AV.nilsl, AV.nilsl, AV.int IntKind.i64 (3 : Int)]) [] []
    exact hk.1 3 (by unfold wE; rw [if_pos (by omega)]) (.inr rfl)
  · -- no
    simp at c1 -- n1 ≤ (16384 : Int) ∧ n4 ≤ (16384 : Int)
    refine br_intro (fun c2 => ?_) (fun c2 => ?_) -- bif decide (what > (4 : Int)) then true else decide (p < (0 : Int))
    · -- yes
      simp at c2 -- (4 : Int) < what ∨ p < (0 : Int)
      -- k (AV.tup [AV.nilsl, AV.nilsl, AV.int IntKind.i64 (2 : Int)]) [] []
      exact hk.1 2 (by unfold wE; rw [if_neg (by omega), if_pos (by omega)]) (.inl rfl)
    · -- no
      simp at c2 -- what ≤ (4 : Int) ∧ (0 : Int) ≤ p
      refine ⟨by first | omega | (dsimp only; omega), ?_⟩ -- held.length * (1 : Nat) ≤ (140737488355328 : Nat)
      intro z6
      intro qz6 -- z6 = held
      refine br_intro (fun c3 => ?_) (fun c3 => ?_) -- what == (3 : Int)
      · -- yes
        simp at c3 -- what = (3 : Int)
        refine ⟨by first | omega | (dsimp only; omega), ?_⟩ -- ins.length * (1 : Nat) ≤ (140737488355328 : Nat)
        intro z8
        intro qz8 -- z8 = ins
        -- k (AV.tup [AV.row (0 : Nat) (0 : Nat) (0 : Nat) held.length, AV.row (0 : Nat) (1 : Nat) (0 : Nat) ins.length, AV.int IntKind.i64 (0 : Int)]) [] [Blk.row (0 : Nat) z6, Blk.row (0 : Nat) z8]
        rw [qz6, qz8]; exact hk.2.1 (by unfold wE; rw [if_neg (by omega), if_neg (by omega)]) c3
      · -- no
        simp at c3 -- ¬what = (3 : Int)
        refine br_intro (fun c4 => ?_) (fun c4 => ?_) -- what == (1 : Int)
        · -- yes
          simp at c4 -- what = (1 : Int)
          -- k (AV.tup [AV.row (0 : Nat) (0 : Nat) (0 : Nat) held.length, AV.nilsl, AV.int IntKind.i64 (0 : Int)]) [] [Blk.row (0 : Nat) z6]
          rw [qz6]; exact hk.2.2 (by unfold wE; rw [if_neg (by omega), if_neg (by omega)]) c3 _ _ (by unfold wOut; rw [if_neg (by omega), if_neg (by omega), if_neg (by omega), List.append_nil]) rfl
        · -- no
          simp at c4 -- ¬what = (1 : Int)
          refine ⟨?_, ?_⟩
          · -- left
            refine ⟨((0 : Int), held.length, z6), ?_⟩
            refine ⟨by first | with_reducible rfl | rfl, ?_⟩ -- ins = ins
            refine ⟨by first | with_reducible rfl | rfl, ?_⟩ -- what = what
            refine ⟨by first | with_reducible rfl | rfl, ?_⟩ -- p = p
            refine ⟨by first | with_reducible rfl | rfl, ?_⟩ -- (0 : Nat) = (0 : Nat)
            refine ⟨by first | with_reducible rfl | rfl, ?_⟩ -- held.length = held.length
            refine ⟨by first | with_reducible rfl | rfl, ?_⟩ -- (0 : Int) = (0 : Int)
            refine ⟨by first | with_reducible rfl | rfl, ?_⟩ -- z6 = z6
            refine ⟨by first | omega | (dsimp only; omega), ?_⟩ -- (0 : Int) ≤ (0 : Int) ∧ (0 : Int) ≤ (↑ins.length : Int)
            have h5 : z6 = held ++ rOut ins what p (Int.toNat (0 : Int)) := by
              rw [qz6]; exact (List.append_nil _).symm
            refine ⟨h5, ?_⟩
            have h6 : z6.length = held.length := by
              rw [qz6]
            refine ⟨h6, ?_⟩
            exact by show (↑held.length : Int) = (↑held.length : Int) + (0 : Int); omega -- (↑held.length : Int) = (↑held.length : Int) + (0 : Int)
          intro v_10
          intro h7 -- ((0 : Int) ≤ v_10.fst ∧ v_10.fst ≤ (↑ins.length : Int)) ∧ v_10.snd.snd = held ++ rOut ins what p v_10.fst.toNat ∧ v_10.snd.snd.length = v_10.snd.fst ∧ (↑v_10.snd.fst : Int) = (↑held.length : Int) + v_10.fst
          intro n12
          intro q12 -- n12 = (↑ins.length : Int)
          intro ⟨l12, u12⟩ -- (-9223372036854775808 : Int) ≤ n12 ∧ n12 ≤ (9223372036854775807 : Int)
          refine brd (fun c8 => ?_) (fun c8 => ?_) -- decide (v_10.fst < n12)
          · -- yes
            intro n15
            intro q15 -- n15 = (↑ins.length : Int)
            refine ⟨?_, ?_⟩
            · -- left
              intro q15 -- (what == (4 : Int)) = true
              simp at q15 -- what = (4 : Int)
              exact by omega -- n15 ≠ (0 : Int)
            intro n18
            intro q18 -- n18 = p.tmod n15
            rw [Int.tmod_eq_emod_of_nonneg (by omega)] at q18
            refine br_intro (fun c9 => ?_) (fun c9 => ?_) -- bif what == (4 : Int) then v_10.fst == n18 else false
            · -- yes
              simp at c9 -- what = (4 : Int) ∧ v_10.fst = n18
              refine ⟨by first | omega | (dsimp only; omega), ?_⟩ -- (0 : Int) ≤ v_10.fst
              refine ⟨by first | omega | (dsimp only; omega), ?_⟩ -- v_10.fst < (↑ins.length : Int)
              intro n20
              intro q20 -- n20 = (↑(ins.getD v_10.fst.toNat (0 : UInt8)).toNat : Int)
              intro ⟨l20, u20⟩ -- (0 : Int) ≤ n20 ∧ n20 ≤ (255 : Int)
              intro n23
              intro q23 -- n23 = IntKind.u8.wrap ((255 : Int) - n20)
              rw [IntKind.wrap_u8] at q23
              intro ⟨l23, u23⟩ -- (0 : Int) ≤ n23 ∧ n23 ≤ (255 : Int)
              refine ⟨by first | omega | (dsimp only; omega), ?_⟩ -- (v_10.snd.fst + (1 : Nat)) * (1 : Nat) ≤ (140737488355328 : Nat)
              intro z26
              intro qz26 -- z26 = List.take v_10.snd.fst v_10.snd.snd ++ List.take (1 : Nat) (List.drop (0 : Nat) [UInt8.ofNat n23.toNat])
              intro n28
              intro q28 -- n28 = IntKind.i64.wrap (v_10.fst + (1 : Int))
              rw [IntKind.wrap_i64] at q28
              intro ⟨l28, u28⟩ -- (-9223372036854775808 : Int) ≤ n28 ∧ n28 ≤ (9223372036854775807 : Int)
              refine ⟨(n28, v_10.snd.fst + (1 : Nat), z26), ?_⟩
              refine ⟨by first | with_reducible rfl | rfl, ?_⟩ -- ins = ins
              refine ⟨by first | with_reducible rfl | rfl, ?_⟩ -- what = what
              refine ⟨by first | with_reducible rfl | rfl, ?_⟩ -- p = p
              refine ⟨by first | with_reducible rfl | rfl, ?_⟩ -- (0 : Nat) = (0 : Nat)
              refine ⟨by first | with_reducible rfl | rfl, ?_⟩ -- v_10.snd.fst + (1 : Nat) = v_10.snd.fst + (1 : Nat)
              refine ⟨by first | with_reducible rfl | rfl, ?_⟩ -- n28 = n28
              refine ⟨by first | with_reducible rfl | rfl, ?_⟩ -- z26 = z26
              refine ⟨?_, ?_⟩
              · -- left
                refine ⟨by first | omega | (dsimp only; omega), ?_⟩ -- (0 : Int) ≤ n28 ∧ n28 ≤ (↑ins.length : Int)
                have h10 : z26 = held ++ rOut ins what p n28.toNat := by
                  rw [qz26, show n28.toNat = v_10.fst.toNat + 1 by omega, rOut_succ, if_pos ⟨c9.1, by rw [← q15, ← q18]; omega⟩, List.take_of_length_le (by omega), h7.2.1, q23, q20, sub_u8, List.append_assoc]
                  rfl
                refine ⟨h10, ?_⟩
                have h11 : z26.length = v_10.snd.fst + (1 : Nat) := by
                  rw [qz26]; simp; omega
                refine ⟨h11, ?_⟩
                exact by show (↑(v_10.snd.fst + (1 : Nat)) : Int) = (↑held.length : Int) + n28; omega -- (↑(v_10.snd.fst + (1 : Nat)) : Int) = (↑held.length : Int) + n28
              exact by show ((↑ins.length : Int) - n28).toNat < ((↑ins.length : Int) - v_10.fst).toNat; omega -- ((↑ins.length : Int) - n28).toNat < ((↑ins.length : Int) - v_10.fst).toNat
            · -- no
              simp at c9 -- what = (4 : Int) → ¬v_10.fst = n18
              refine ⟨by first | omega | (dsimp only; omega), ?_⟩ -- (0 : Int) ≤ v_10.fst
              refine ⟨by first | omega | (dsimp only; omega), ?_⟩ -- v_10.fst < (↑ins.length : Int)
              intro n31
              intro q31 -- n31 = (↑(ins.getD v_10.fst.toNat (0 : UInt8)).toNat : Int)
              intro ⟨l31, u31⟩ -- (0 : Int) ≤ n31 ∧ n31 ≤ (255 : Int)
              refine ⟨by first | omega | (dsimp only; omega), ?_⟩ -- (v_10.snd.fst + (1 : Nat)) * (1 : Nat) ≤ (140737488355328 : Nat)
              intro z34
              intro qz34 -- z34 = List.take v_10.snd.fst v_10.snd.snd ++ List.take (1 : Nat) (List.drop (0 : Nat) [UInt8.ofNat n31.toNat])
              intro n36
              intro q36 -- n36 = IntKind.i64.wrap (v_10.fst + (1 : Int))
              rw [IntKind.wrap_i64] at q36
              intro ⟨l36, u36⟩ -- (-9223372036854775808 : Int) ≤ n36 ∧ n36 ≤ (9223372036854775807 : Int)
              refine ⟨(n36, v_10.snd.fst + (1 : Nat), z34), ?_⟩
              refine ⟨by first | with_reducible rfl | rfl, ?_⟩ -- ins = ins
              refine ⟨by first | with_reducible rfl | rfl, ?_⟩ -- what = what
              refine ⟨by first | with_reducible rfl | rfl, ?_⟩ -- p = p
              refine ⟨by first | with_reducible rfl | rfl, ?_⟩ -- (0 : Nat) = (0 : Nat)
              refine ⟨by first | with_reducible rfl | rfl, ?_⟩ -- v_10.snd.fst + (1 : Nat) = v_10.snd.fst + (1 : Nat)
              refine ⟨by first | with_reducible rfl | rfl, ?_⟩ -- n36 = n36
              refine ⟨by first | with_reducible rfl | rfl, ?_⟩ -- z34 = z34
              refine ⟨?_, ?_⟩
              · -- left
                refine ⟨by first | omega | (dsimp only; omega), ?_⟩ -- (0 : Int) ≤ n36 ∧ n36 ≤ (↑ins.length : Int)
                have h12 : z34 = held ++ rOut ins what p n36.toNat := by
                  rw [qz34, show n36.toNat = v_10.fst.toNat + 1 by omega, rOut_succ, if_neg (fun c => c9 c.1 (by have := c.2; rw [← q15, ← q18] at this; omega)), List.take_of_length_le (by omega), h7.2.1, q31, Int.toNat_natCast, UInt8.ofNat_toNat, List.append_assoc]
                  rfl
                refine ⟨h12, ?_⟩
                have h13 : z34.length = v_10.snd.fst + (1 : Nat) := by
                  rw [qz34]; simp; omega
                refine ⟨h13, ?_⟩
                exact by show (↑(v_10.snd.fst + (1 : Nat)) : Int) = (↑held.length : Int) + n36; omega -- (↑(v_10.snd.fst + (1 : Nat)) : Int) = (↑held.length : Int) + n36
              exact by show ((↑ins.length : Int) - n36).toNat < ((↑ins.length : Int) - v_10.fst).toNat; omega -- ((↑ins.length : Int) - n36).toNat < ((↑ins.length : Int) - v_10.fst).toNat
          · -- no
            refine br_intro (fun c14 => ?_) (fun c14 => ?_) -- what == (2 : Int)
            · -- yes
              simp at c14 -- what = (2 : Int)
              refine ⟨by first | omega | (dsimp only; omega), ?_⟩ -- (v_10.snd.fst + ins.length) * (1 : Nat) ≤ (140737488355328 : Nat)
              intro z39
              intro qz39 -- z39 = List.take v_10.snd.fst v_10.snd.snd ++ ins
              -- k (AV.tup [AV.row (0 : Nat) (0 : Nat) (0 : Nat) (v_10.snd.fst + ins.length), AV.nilsl, AV.int IntKind.i64 (0 : Int)]) [] [Blk.row (0 : Nat) z39]
              exact hk.2.2 (by unfold wE; rw [if_neg (by omega), if_neg (by omega)]) c3 _ _ (by rw [qz39, List.take_of_length_le (by omega), h7.2.1, show v_10.fst.toNat = ins.length by omega, rOut_all _ _ _ c2.2, if_neg (by omega)]; unfold wOut; rw [if_neg (by omega), if_pos c14, List.append_assoc]) (by rw [qz39]; simp; omega)
            · -- no
              simp at c14 -- ¬what = (2 : Int)
              -- k (AV.tup [AV.row (0 : Nat) (0 : Nat) (0 : Nat) v_10.snd.fst, AV.nilsl, AV.int IntKind.i64 (0 : Int)]) [] [Blk.row (0 : Nat) v_10.snd.snd]
              exact hk.2.2 (by unfold wE; rw [if_neg (by omega), if_neg (by omega)]) c3 _ _ (by
                rw [h7.2.1, show v_10.fst.toNat = ins.length by omega, rOut_all _ _ _ c2.2]
                unfold wOut
                by_cases e : what = 4
                · rw [if_pos e, if_neg (by omega), if_neg (by omega), if_pos e]
                · rw [if_neg e, if_pos (by omega)]) h7.2.2.1

theorem rnext_ok : Holds Try.prog 13 nextS := by
  refine fn_sound (env := mkEnv T1) (tab_ok T1_ok) Try.func13 Try.call13 fun args k h => ?_
  match args, h with
  | [.sl 0 held, .sl 0 ins, .int .u8 what, .int .i64 p], h => exact ⟨by kernel_rfl, rnextLoops held ins what p, fun _ _ => none, .cast (by kernel_rfl) (rnext_vc held ins what h.1.1 h.1.2 p h.2.1.1 h.2.1.2 k h.2.2)⟩
end Go.Proofs.Ytkcnpemaocdnkaa

