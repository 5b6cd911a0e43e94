import Derived.Test.YtpkfadgennejnaaLkB
namespace Go.Proofs.Ytpkfadgennejnaa
open Go Go.Eng Go.Lk Go.Proofs
set_option linter.unusedVariables false
set_option maxHeartbeats 2000000 in
theorem clone_vc (xs : List UInt8) (hx : xs.length ≤ (1000000 : Nat)) (k : AV → List (Option Blk) → List Blk → Prop) (hk : (xs = [] → k AV.nilsl [] []) ∧ k (AV.row (0 : Nat) (0 : Nat) (0 : Nat) xs.length) [] [Blk.row (0 : Nat) xs]) :
  ∀ (b_1 : Bool),
  ((b_1 = true) →
   (xs = [])) →
  br (b_1)
   ((k AV.nilsl [] []))
   ((((0 : Nat) + xs.length) * (1 : Nat) ≤ (140737488355328 : Nat)) ∧
    ∀ (z3 : List UInt8),
    (z3 = List.take (0 : Nat) [] ++ xs) →
    (k (AV.row (0 : Nat) (0 : Nat) (0 : Nat) ((0 : Nat) + xs.length)) [] [Blk.row (0 : Nat) z3])) := by
  intro b_1
  intro h1 -- b_1 = true → xs = []
  refine br_intro (fun c2 => ?_) (fun c2 => ?_) -- b_1
  · -- yes
    -- k AV.nilsl [] []
    exact hk.1 (h1 c2)
  · -- no
    refine ⟨by first | omega | (dsimp only; omega), ?_⟩ -- ((0 : Nat) + xs.length) * (1 : Nat) ≤ (140737488355328 : Nat)
    intro z3
    intro qz3 -- z3 = List.take (0 : Nat) [] ++ xs
    -- k (AV.row (0 : Nat) (0 : Nat) (0 : Nat) ((0 : Nat) + xs.length)) [] [Blk.row (0 : Nat) z3]
    rw [qz3, Nat.zero_add]; exact hk.2

theorem clone_ok : Holds Try.prog 32 clone0S := by
  refine fn_sound (env := mkEnv T0) (tab_ok T0_ok) Try.func32 Try.call32 fun args k h => ?_
  match args, h with
  | [.sl 0 xs], h => exact ⟨by kernel_rfl, fun _ _ => none, fun _ _ => none, .cast (by kernel_rfl) (clone_vc xs h.1 k h.2)⟩
theorem cloneR_ok : Holds Try.prog 32 cloneS := clone_ok.nl 0 rfl rfl rfl fun args k h => by
  unfold cloneS at h
  dsimp only at h
  split at h
  · exact ⟨h.1, fun e => by subst e; exact h.2, h.2⟩
  · exact h.elim
def cloneN : Eng.Spec := { cloneS with run := fun args B k => cloneS.run (args.map nilB) B k }
theorem cloneN_ok : Holds Try.prog 32 cloneN := cloneR_ok.nil
set_option maxHeartbeats 2000000 in
theorem check_vc (an : Bool) (la : Int) (la0 : (0 : Int) ≤ la) (la1 : la ≤ (4294967295 : Int)) (ag : Int) (ag0 : (-9223372036854775808 : Int) ≤ ag) (ag1 : ag ≤ (9223372036854775807 : Int)) (k : AV → List (Option Blk) → List Blk → Prop) (hk : ∀ (e : Int), (e = if lkBad an la ag then (8 : Int) else (0 : Int)) → k (AV.int IntKind.i64 e) [] []) :
  ∀ (n1 : Int),
  (n1 = ag) →
  ((-9223372036854775808 : Int) ≤ n1 ∧ n1 ≤ (9223372036854775807 : Int)) →
  ∀ (n4 : Int),
  (n4 = ag) →
  ∀ (n6 : Int),
  (n6 = la) →
  br (bif bif decide (n1 < (0 : Int)) then true else decide (n4 > (1048576 : Int)) then true else bif !an then n6 != (0 : Int) else false)
   ((k (AV.int IntKind.i64 (8 : Int)) [] []))
   ((k (AV.int IntKind.i64 (0 : Int)) [] [])) := by
  intro n1
  intro q1 -- n1 = ag
  intro ⟨l1, u1⟩ -- (-9223372036854775808 : Int) ≤ n1 ∧ n1 ≤ (9223372036854775807 : Int)
  intro n4
  intro q4 -- n4 = ag
  intro n6
  intro q6 -- n6 = la
  refine br_intro (fun c1 => ?_) (fun c1 => ?_) -- bif bif decide (n1 < (0 : Int)) then true else decide (n4 > (1048576 : Int)) then true else bif !an then n6 != (0 : Int) else false
  · -- yes
    simp at c1 -- (n1 < (0 : Int) ∨ (1048576 : Int) < n4) ∨ an = false ∧ ¬n6 = (0 : Int)
    -- k (AV.int IntKind.i64 (8 : Int)) [] []
    rw [q1, q4, q6] at c1; exact hk 8 (by rw [if_pos (chk c1)])
  · -- no
    simp at c1 -- ((0 : Int) ≤ n1 ∧ n4 ≤ (1048576 : Int)) ∧ (an = false → n6 = (0 : Int))
    -- k (AV.int IntKind.i64 (0 : Int)) [] []
    rw [q1, q4, q6] at c1; exact hk 0 (by rw [if_neg (chk0 c1)])

theorem check_ok : Holds Try.prog 31 checkS := by
  refine fn_sound (env := mkEnv T0) (tab_ok T0_ok) Try.func31 Try.call31 fun args k h => ?_
  match args, h with
  | [.agg [.bool an, .int .u32 la, .int .i64 ag]], h => exact ⟨by kernel_rfl, fun _ _ => none, fun _ _ => none, .cast (by kernel_rfl) (check_vc an la h.1.1 h.1.2 ag h.2.1.1 h.2.1.2 k h.2.2)⟩
theorem T1_ok : TabOk Try.prog T1 := ⟨cloneR_ok, check_ok, trivial⟩
set_option maxHeartbeats 2000000 in
theorem next_vc (an : Bool) (la : Int) (la0 : (0 : Int) ≤ la) (la1 : la ≤ (4294967295 : Int)) (ag : Int) (ag0 : (-9223372036854775808 : Int) ≤ ag) (ag1 : ag ≤ (9223372036854775807 : Int)) (got : List Msg) (k : AV → List (Option Blk) → List Blk → Prop) (hk : (∀ (e : Int), e = lE an la ag got → e ≠ (0 : Int) → k (AV.tup [AV.agg [AV.bool false, AV.int IntKind.u32 (0 : Int), AV.int IntKind.i64 (0 : Int)], AV.nilsl, AV.int IntKind.i64 e]) [] []) ∧ (lE an la ag got = (0 : Int) → ∀ (b : Bool) (l a : Int) (ys : List Msg) (n : Nat), (b, l) = stk (an, la) got → inK IntKind.u32 l → ys = tk (an, la) got → ys.length = n → a = ageN ag n → k (AV.tup [AV.agg [AV.bool b, AV.int IntKind.u32 l, AV.int IntKind.i64 a], AV.row (8 : Nat) (0 : Nat) (0 : Nat) n, AV.int IntKind.i64 (0 : Int)]) [] [Blk.row (8 : Nat) ys])) :
  (
   ((0 : Int) ≤ la) ∧
   (la ≤ (4294967295 : Int))) ∧
  (
   ((-9223372036854775808 : Int) ≤ ag) ∧
   (ag ≤ (9223372036854775807 : Int))) ∧
  ∀ (e_1 : Int),
  (e_1 = if lkBad an la ag then (8 : Int) else (0 : Int)) →
  br (e_1 != (0 : Int))
   ((k (AV.tup [AV.agg [AV.bool false, AV.int IntKind.u32 (0 : Int), AV.int IntKind.i64 (0 : Int)], AV.nilsl, AV.int IntKind.i64 e_1]) [] []))
   (∀ (n3 : Int),
    (n3 = (↑got.length : Int)) →
    ((-9223372036854775808 : Int) ≤ n3 ∧ n3 ≤ (9223372036854775807 : Int)) →
    br (decide (n3 > (1024 : Int)))
     ((k (AV.tup [AV.agg [AV.bool false, AV.int IntKind.u32 (0 : Int), AV.int IntKind.i64 (0 : Int)], AV.nilsl, AV.int IntKind.i64 (4 : Int)]) [] []))
     (∀ (n6 : Int),
      (n6 = (↑got.length : Int)) →
      ((-9223372036854775808 : Int) ≤ n6 ∧ n6 ≤ (9223372036854775807 : Int)) →
      (
       ∃ (v : Int),
       (got = got) ∧
       (got = got) ∧
       (n6 = (↑got.length : Int)) ∧
       ((0 : Int) = v) ∧
       (an = an) ∧
       (la = la) ∧
       (ag = ag) ∧
       (false = false) ∧
       ((0 : Int) = (0 : Int)) ∧
       ((0 : Int) = (0 : Int)) ∧
       (
        ((0 : Int) ≤ v) ∧
        (v ≤ (↑got.length : Int))) ∧
       ∀ (j_9 : Nat),
       (j_9 < v.toNat) →
       ((got.getD j_9 (dflt (8 : Nat))).body.length ≤ (512 : Nat))) ∧
      ∀ (v_11 : Int),
      (((0 : Int) ≤ v_11 ∧ v_11 ≤ (↑got.length : Int)) ∧ ∀ (j : Nat), j < v_11.toNat → (got.getD j (dflt (8 : Nat))).body.length ≤ (512 : Nat)) →
      br (decide (v_11 < (↑got.length : Int)))
       (((0 : Int) ≤ v_11) ∧
        (v_11 < (↑got.length : Int)) ∧
        ∀ (n13 : Int),
        (n13 = (↑(got.getD v_11.toNat (dflt (8 : Nat))).body.length : Int)) →
        ((-9223372036854775808 : Int) ≤ n13 ∧ n13 ≤ (9223372036854775807 : Int)) →
        br (decide (n13 > (512 : Int)))
         ((k (AV.tup [AV.agg [AV.bool false, AV.int IntKind.u32 (0 : Int), AV.int IntKind.i64 (0 : Int)], AV.nilsl, AV.int IntKind.i64 (3 : Int)]) [] []))
         (∀ (n16 : Int),
          (n16 = IntKind.i64.wrap (v_11 + (1 : Int))) →
          ((-9223372036854775808 : Int) ≤ n16 ∧ n16 ≤ (9223372036854775807 : Int)) →
          ∃ (v' : Int),
          (got = got) ∧
          (got = got) ∧
          ((↑got.length : Int) = (↑got.length : Int)) ∧
          (n16 = v') ∧
          (an = an) ∧
          (la = la) ∧
          (ag = ag) ∧
          (false = false) ∧
          ((0 : Int) = (0 : Int)) ∧
          ((0 : Int) = (0 : Int)) ∧
          (
           (
            ((0 : Int) ≤ v') ∧
            (v' ≤ (↑got.length : Int))) ∧
           ∀ (j_19 : Nat),
           (j_19 < v'.toNat) →
           ((got.getD j_19 (dflt (8 : Nat))).body.length ≤ (512 : Nat))) ∧
          (((↑got.length : Int) - v').toNat < ((↑got.length : Int) - v_11).toNat)))
       (∀ (n21 : Int),
        (n21 = (↑got.length : Int)) →
        ((-9223372036854775808 : Int) ≤ n21 ∧ n21 ≤ (9223372036854775807 : Int)) →
        (
         ∃ (v : Int × Bool × Int × Nat × List Msg),
         ((0 : Nat) = (0 : Nat)) ∧
         ((0 : Nat) = v.snd.snd.snd.fst) ∧
         (got = got) ∧
         (n21 = (↑got.length : Int)) ∧
         ((0 : Int) = v.fst) ∧
         (an = v.snd.fst) ∧
         (la = v.snd.snd.fst) ∧
         (ag = ag) ∧
         (false = false) ∧
         ((0 : Int) = (0 : Int)) ∧
         ((0 : Int) = (0 : Int)) ∧
         ([] = v.snd.snd.snd.snd) ∧
         (
          ((0 : Int) ≤ v.fst) ∧
          (v.fst ≤ (↑got.length : Int))) ∧
         (
          ((0 : Int) ≤ v.snd.snd.fst) ∧
          (v.snd.snd.fst ≤ (4294967295 : Int))) ∧
         ((v.snd.fst, v.snd.snd.fst) = stk (an, la) (List.take v.fst.toNat got)) ∧
         (v.snd.snd.snd.snd = tk (an, la) (List.take v.fst.toNat got)) ∧
         (v.snd.snd.snd.snd.length = v.snd.snd.snd.fst) ∧
         ((↑v.snd.snd.snd.fst : Int) ≤ v.fst) ∧
         (got.length ≤ (1024 : Nat)) ∧
         (bigB got = false)) ∧
        ∀ (v_24 : Int × Bool × Int × Nat × List Msg),
        (((0 : Int) ≤ v_24.fst ∧ v_24.fst ≤ (↑got.length : Int)) ∧ ((0 : Int) ≤ v_24.snd.snd.fst ∧ v_24.snd.snd.fst ≤ (4294967295 : Int)) ∧ (v_24.snd.fst, v_24.snd.snd.fst) = stk (an, la) (List.take v_24.fst.toNat got) ∧ v_24.snd.snd.snd.snd = tk (an, la) (List.take v_24.fst.toNat got) ∧ v_24.snd.snd.snd.snd.length = v_24.snd.snd.snd.fst ∧ (↑v_24.snd.snd.snd.fst : Int) ≤ v_24.fst ∧ got.length ≤ (1024 : Nat) ∧ bigB got = false) →
        br (decide (v_24.fst < (↑got.length : Int)))
         (((0 : Int) ≤ v_24.fst) ∧
          (v_24.fst < (↑got.length : Int)) ∧
          ∀ (n26 : Int),
          (n26 = (↑(got.getD v_24.fst.toNat (dflt (8 : Nat))).seq.toNat : Int)) →
          ∀ (n28 : Int),
          (n28 = v_24.snd.snd.fst) →
          br (bif v_24.snd.fst then decide (n26 ≤ n28) else false)
           (∀ (n30 : Int),
            (n30 = IntKind.i64.wrap (v_24.fst + (1 : Int))) →
            ((-9223372036854775808 : Int) ≤ n30 ∧ n30 ≤ (9223372036854775807 : Int)) →
            ∃ (v' : Int × Bool × Int × Nat × List Msg),
            ((0 : Nat) = (0 : Nat)) ∧
            (v_24.snd.snd.snd.fst = v'.snd.snd.snd.fst) ∧
            (got = got) ∧
            ((↑got.length : Int) = (↑got.length : Int)) ∧
            (n30 = v'.fst) ∧
            (v_24.snd.fst = v'.snd.fst) ∧
            (v_24.snd.snd.fst = v'.snd.snd.fst) ∧
            (ag = ag) ∧
            (false = false) ∧
            ((0 : Int) = (0 : Int)) ∧
            ((0 : Int) = (0 : Int)) ∧
            (v_24.snd.snd.snd.snd = v'.snd.snd.snd.snd) ∧
            (
             (
              ((0 : Int) ≤ v'.fst) ∧
              (v'.fst ≤ (↑got.length : Int))) ∧
             (
              ((0 : Int) ≤ v'.snd.snd.fst) ∧
              (v'.snd.snd.fst ≤ (4294967295 : Int))) ∧
             ((v'.snd.fst, v'.snd.snd.fst) = stk (an, la) (List.take v'.fst.toNat got)) ∧
             (v'.snd.snd.snd.snd = tk (an, la) (List.take v'.fst.toNat got)) ∧
             (v'.snd.snd.snd.snd.length = v'.snd.snd.snd.fst) ∧
             ((↑v'.snd.snd.snd.fst : Int) ≤ v'.fst) ∧
             (got.length ≤ (1024 : Nat)) ∧
             (bigB got = false)) ∧
            (((↑got.length : Int) - v'.fst).toNat < ((↑got.length : Int) - v_24.fst).toNat))
           ((
             (
              ∀ (n33 : Int),
              (n33 = (↑(got.getD v_24.fst.toNat (dflt (8 : Nat))).seq.toNat : Int)) →
              ((0 : Int) ≤ n33 ∧ n33 ≤ (4294967295 : Int)) →
              ((got.getD v_24.fst.toNat (dflt (8 : Nat))).body.length ≤ (1000000 : Nat)) ∧
              ((v_24.snd.snd.snd.fst + (1 : Nat)) * (32 : Nat) ≤ (140737488355328 : Nat)) ∧
              ∀ (z36 : List Msg),
              (z36 = List.take v_24.snd.snd.snd.fst v_24.snd.snd.snd.snd ++ List.take (1 : Nat) (List.drop (0 : Nat) [{ kind := UInt8.ofNat (↑(got.getD v_24.fst.toNat (dflt (8 : Nat))).kind.toNat : Int).toNat, seq := UInt32.ofNat (↑(got.getD v_24.fst.toNat (dflt (8 : Nat))).seq.toNat : Int).toNat, body := List.take (got.getD v_24.fst.toNat (dflt (8 : Nat))).body.length (List.drop (0 : Nat) (got.getD v_24.fst.toNat (dflt (8 : Nat))).body) : Msg }])) →
              ∀ (n38 : Int),
              (n38 = IntKind.i64.wrap (v_24.fst + (1 : Int))) →
              ((-9223372036854775808 : Int) ≤ n38 ∧ n38 ≤ (9223372036854775807 : Int)) →
              ∃ (v' : Int × Bool × Int × Nat × List Msg),
              ((0 : Nat) = (0 : Nat)) ∧
              (v_24.snd.snd.snd.fst + (1 : Nat) = v'.snd.snd.snd.fst) ∧
              (got = got) ∧
              ((↑got.length : Int) = (↑got.length : Int)) ∧
              (n38 = v'.fst) ∧
              (true = v'.snd.fst) ∧
              (n33 = v'.snd.snd.fst) ∧
              (ag = ag) ∧
              (false = false) ∧
              ((0 : Int) = (0 : Int)) ∧
              ((0 : Int) = (0 : Int)) ∧
              (z36 = v'.snd.snd.snd.snd) ∧
              (
               (
                ((0 : Int) ≤ v'.fst) ∧
                (v'.fst ≤ (↑got.length : Int))) ∧
               (
                ((0 : Int) ≤ v'.snd.snd.fst) ∧
                (v'.snd.snd.fst ≤ (4294967295 : Int))) ∧
               ((v'.snd.fst, v'.snd.snd.fst) = stk (an, la) (List.take v'.fst.toNat got)) ∧
               (v'.snd.snd.snd.snd = tk (an, la) (List.take v'.fst.toNat got)) ∧
               (v'.snd.snd.snd.snd.length = v'.snd.snd.snd.fst) ∧
               ((↑v'.snd.snd.snd.fst : Int) ≤ v'.fst) ∧
               (got.length ≤ (1024 : Nat)) ∧
               (bigB got = false)) ∧
              (((↑got.length : Int) - v'.fst).toNat < ((↑got.length : Int) - v_24.fst).toNat)) ∧
             ∀ (n41 : Int),
             (n41 = (↑(got.getD v_24.fst.toNat (dflt (8 : Nat))).seq.toNat : Int)) →
             ((0 : Int) ≤ n41 ∧ n41 ≤ (4294967295 : Int)) →
             ((got.getD v_24.fst.toNat (dflt (8 : Nat))).body.length ≤ (1000000 : Nat)) ∧
             ((v_24.snd.snd.snd.fst + (1 : Nat)) * (32 : Nat) ≤ (140737488355328 : Nat)) ∧
             ∀ (z44 : List Msg),
             (z44 = List.take v_24.snd.snd.snd.fst v_24.snd.snd.snd.snd ++ List.take (1 : Nat) (List.drop (0 : Nat) [{ kind := UInt8.ofNat (↑(got.getD v_24.fst.toNat (dflt (8 : Nat))).kind.toNat : Int).toNat, seq := UInt32.ofNat (↑(got.getD v_24.fst.toNat (dflt (8 : Nat))).seq.toNat : Int).toNat, body := List.take (got.getD v_24.fst.toNat (dflt (8 : Nat))).body.length (List.drop (0 : Nat) (got.getD v_24.fst.toNat (dflt (8 : Nat))).body) : Msg }])) →
             ∀ (n46 : Int),
             (n46 = IntKind.i64.wrap (v_24.fst + (1 : Int))) →
             ((-9223372036854775808 : Int) ≤ n46 ∧ n46 ≤ (9223372036854775807 : Int)) →
             ∃ (v' : Int × Bool × Int × Nat × List Msg),
             ((0 : Nat) = (0 : Nat)) ∧
             (v_24.snd.snd.snd.fst + (1 : Nat) = v'.snd.snd.snd.fst) ∧
             (got = got) ∧
             ((↑got.length : Int) = (↑got.length : Int)) ∧
             (n46 = v'.fst) ∧
             (true = v'.snd.fst) ∧
             (n41 = v'.snd.snd.fst) ∧
             (ag = ag) ∧
             (false = false) ∧
             ((0 : Int) = (0 : Int)) ∧
             ((0 : Int) = (0 : Int)) ∧
             (z44 = v'.snd.snd.snd.snd) ∧
             (
              (
               ((0 : Int) ≤ v'.fst) ∧
               (v'.fst ≤ (↑got.length : Int))) ∧
              (
               ((0 : Int) ≤ v'.snd.snd.fst) ∧
               (v'.snd.snd.fst ≤ (4294967295 : Int))) ∧
              ((v'.snd.fst, v'.snd.snd.fst) = stk (an, la) (List.take v'.fst.toNat got)) ∧
              (v'.snd.snd.snd.snd = tk (an, la) (List.take v'.fst.toNat got)) ∧
              (v'.snd.snd.snd.snd.length = v'.snd.snd.snd.fst) ∧
              ((↑v'.snd.snd.snd.fst : Int) ≤ v'.fst) ∧
              (got.length ≤ (1024 : Nat)) ∧
              (bigB got = false)) ∧
             (((↑got.length : Int) - v'.fst).toNat < ((↑got.length : Int) - v_24.fst).toNat)) ∧
            ∀ (n49 : Int),
            (n49 = (↑(got.getD v_24.fst.toNat (dflt (8 : Nat))).seq.toNat : Int)) →
            ((0 : Int) ≤ n49 ∧ n49 ≤ (4294967295 : Int)) →
            ((got.getD v_24.fst.toNat (dflt (8 : Nat))).body.length ≤ (1000000 : Nat)) ∧
            ((v_24.snd.snd.snd.fst + (1 : Nat)) * (32 : Nat) ≤ (140737488355328 : Nat)) ∧
            ∀ (z52 : List Msg),
            (z52 = List.take v_24.snd.snd.snd.fst v_24.snd.snd.snd.snd ++ List.take (1 : Nat) (List.drop (0 : Nat) [{ kind := UInt8.ofNat (↑(got.getD v_24.fst.toNat (dflt (8 : Nat))).kind.toNat : Int).toNat, seq := UInt32.ofNat (↑(got.getD v_24.fst.toNat (dflt (8 : Nat))).seq.toNat : Int).toNat, body := List.take (got.getD v_24.fst.toNat (dflt (8 : Nat))).body.length (List.drop (0 : Nat) (got.getD v_24.fst.toNat (dflt (8 : Nat))).body) : Msg }])) →
            ∀ (n54 : Int),
            (n54 = IntKind.i64.wrap (v_24.fst + (1 : Int))) →
            ((-9223372036854775808 : Int) ≤ n54 ∧ n54 ≤ (9223372036854775807 : Int)) →
            ∃ (v' : Int × Bool × Int × Nat × List Msg),
            ((0 : Nat) = (0 : Nat)) ∧
            (v_24.snd.snd.snd.fst + (1 : Nat) = v'.snd.snd.snd.fst) ∧
            (got = got) ∧
            ((↑got.length : Int) = (↑got.length : Int)) ∧
            (n54 = v'.fst) ∧
            (true = v'.snd.fst) ∧
            (n49 = v'.snd.snd.fst) ∧
            (ag = ag) ∧
            (false = false) ∧
            ((0 : Int) = (0 : Int)) ∧
            ((0 : Int) = (0 : Int)) ∧
            (z52 = v'.snd.snd.snd.snd) ∧
            (
             (
              ((0 : Int) ≤ v'.fst) ∧
              (v'.fst ≤ (↑got.length : Int))) ∧
             (
              ((0 : Int) ≤ v'.snd.snd.fst) ∧
              (v'.snd.snd.fst ≤ (4294967295 : Int))) ∧
             ((v'.snd.fst, v'.snd.snd.fst) = stk (an, la) (List.take v'.fst.toNat got)) ∧
             (v'.snd.snd.snd.snd = tk (an, la) (List.take v'.fst.toNat got)) ∧
             (v'.snd.snd.snd.snd.length = v'.snd.snd.snd.fst) ∧
             ((↑v'.snd.snd.snd.fst : Int) ≤ v'.fst) ∧
             (got.length ≤ (1024 : Nat)) ∧
             (bigB got = false)) ∧
            (((↑got.length : Int) - v'.fst).toNat < ((↑got.length : Int) - v_24.fst).toNat)))
         (∀ (n57 : Int),
          (n57 = ag) →
          ((-9223372036854775808 : Int) ≤ n57 ∧ n57 ≤ (9223372036854775807 : Int)) →
          ∀ (n60 : Int),
          (n60 = IntKind.i64.wrap (n57 + (1 : Int))) →
          ((-9223372036854775808 : Int) ≤ n60 ∧ n60 ≤ (9223372036854775807 : Int)) →
          ∀ (n63 : Int),
          (n63 = min n60 (1048576 : Int)) →
          ((-9223372036854775808 : Int) ≤ n63 ∧ n63 ≤ (9223372036854775807 : Int)) →
          ∀ (n66 : Int),
          (n66 = (↑v_24.snd.snd.snd.fst : Int)) →
          ((-9223372036854775808 : Int) ≤ n66 ∧ n66 ≤ (9223372036854775807 : Int)) →
          br (decide (n66 > (0 : Int)))
           ((k (AV.tup [AV.agg [AV.bool v_24.snd.fst, AV.int IntKind.u32 v_24.snd.snd.fst, AV.int IntKind.i64 (0 : Int)], AV.row (8 : Nat) (0 : Nat) (0 : Nat) v_24.snd.snd.snd.fst, AV.int IntKind.i64 (0 : Int)]) [] [Blk.row (8 : Nat) v_24.snd.snd.snd.snd]))
           ((k (AV.tup [AV.agg [AV.bool v_24.snd.fst, AV.int IntKind.u32 v_24.snd.snd.fst, AV.int IntKind.i64 n63], AV.row (8 : Nat) (0 : Nat) (0 : Nat) v_24.snd.snd.snd.fst, AV.int IntKind.i64 (0 : Int)]) [] [Blk.row (8 : Nat) v_24.snd.snd.snd.snd])))))) := by
  refine ⟨by exact ⟨by assumption, by assumption⟩, ?_⟩ -- (0 : Int) ≤ la ∧ la ≤ (4294967295 : Int)
  refine ⟨by exact ⟨by assumption, by assumption⟩, ?_⟩ -- (-9223372036854775808 : Int) ≤ ag ∧ ag ≤ (9223372036854775807 : Int)
  intro e_1
  intro h1 -- e_1 = if lkBad an la ag then (8 : Int) else (0 : Int)
  refine br_intro (fun c2 => ?_) (fun c2 => ?_) -- e_1 != (0 : Int)
  · -- yes
    simp at c2 -- ¬e_1 = (0 : Int)
    -- k (AV.tup [AV.agg [AV.bool false, AV.int IntKind.u32 (0 : Int), AV.int IntKind.i64 (0 : Int)], AV.nilsl, AV.int IntKind.i64 e_1]) [] []
    exact hk.1 e_1 (lE_1 h1 c2) c2
  · -- no
    simp at c2 -- e_1 = (0 : Int)
    intro n3
    intro q3 -- n3 = (↑got.length : Int)
    intro ⟨l3, u3⟩ -- (-9223372036854775808 : Int) ≤ n3 ∧ n3 ≤ (9223372036854775807 : Int)
    refine brd (fun c3 => ?_) (fun c3 => ?_) -- decide (n3 > (1024 : Int))
    · -- yes
      -- k (AV.tup [AV.agg [AV.bool false, AV.int IntKind.u32 (0 : Int), AV.int IntKind.i64 (0 : Int)], AV.nilsl, AV.int IntKind.i64 (4 : Int)]) [] []
      exact hk.1 4 (lE_4 (nb h1 c2) (by omega)) (by decide)
    · -- no
      intro n6
      intro q6 -- n6 = (↑got.length : Int)
      intro ⟨l6, u6⟩ -- (-9223372036854775808 : Int) ≤ n6 ∧ n6 ≤ (9223372036854775807 : Int)
      refine ⟨?_, ?_⟩
      · -- left
        refine ⟨(0 : Int), ?_⟩
        refine ⟨by first | with_reducible rfl | rfl, ?_⟩ -- got = got
        refine ⟨by first | with_reducible rfl | rfl, ?_⟩ -- got = got
        refine ⟨by show n6 = (↑got.length : Int); assumption, ?_⟩ -- n6 = (↑got.length : Int)
        refine ⟨by first | with_reducible rfl | rfl, ?_⟩ -- (0 : Int) = (0 : Int)
        refine ⟨by first | with_reducible rfl | rfl, ?_⟩ -- an = an
        refine ⟨by first | with_reducible rfl | rfl, ?_⟩ -- la = la
        refine ⟨by first | with_reducible rfl | rfl, ?_⟩ -- ag = ag
        refine ⟨by first | with_reducible rfl | rfl, ?_⟩ -- false = false
        refine ⟨by first | with_reducible rfl | rfl, ?_⟩ -- (0 : Int) = (0 : Int)
        refine ⟨by first | with_reducible rfl | rfl, ?_⟩ -- (0 : Int) = (0 : Int)
        refine ⟨by first | omega | (dsimp only; omega), ?_⟩ -- (0 : Int) ≤ (0 : Int) ∧ (0 : Int) ≤ (↑got.length : Int)
        intro j_9
        intro h4 -- j_9 < Int.toNat (0 : Int)
        exact by show (got.getD j_9 (dflt (8 : Nat))).body.length ≤ (512 : Nat); omega -- (got.getD j_9 (dflt (8 : Nat))).body.length ≤ (512 : Nat)
      intro v_11
      intro h5 -- ((0 : Int) ≤ v_11 ∧ v_11 ≤ (↑got.length : Int)) ∧ ∀ (j : Nat), j < v_11.toNat → (got.getD j (dflt (8 : Nat))).body.length ≤ (512 : Nat)
      refine brd (fun c6 => ?_) (fun c6 => ?_) -- decide (v_11 < (↑got.length : Int))
      · -- yes
        refine ⟨by first | omega | (dsimp only; omega), ?_⟩ -- (0 : Int) ≤ v_11
        refine ⟨by assumption, ?_⟩ -- v_11 < (↑got.length : Int)
        intro n13
        intro q13 -- n13 = (↑(got.getD v_11.toNat (dflt (8 : Nat))).body.length : Int)
        intro ⟨l13, u13⟩ -- (-9223372036854775808 : Int) ≤ n13 ∧ n13 ≤ (9223372036854775807 : Int)
        refine brd (fun c7 => ?_) (fun c7 => ?_) -- decide (n13 > (512 : Int))
        · -- yes
          -- k (AV.tup [AV.agg [AV.bool false, AV.int IntKind.u32 (0 : Int), AV.int IntKind.i64 (0 : Int)], AV.nilsl, AV.int IntKind.i64 (3 : Int)]) [] []
          exact hk.1 3 (lE_3 (nb h1 c2) (by omega) (bigB_at got (j := v_11.toNat) (by omega) (by omega))) (by decide)
        · -- no
          intro n16
          intro q16 -- n16 = IntKind.i64.wrap (v_11 + (1 : Int))
          rw [IntKind.wrap_i64] at q16
          intro ⟨l16, u16⟩ -- (-9223372036854775808 : Int) ≤ n16 ∧ n16 ≤ (9223372036854775807 : Int)
          refine ⟨n16, ?_⟩
          refine ⟨by first | with_reducible rfl | rfl, ?_⟩ -- got = got
          refine ⟨by first | with_reducible rfl | rfl, ?_⟩ -- got = got
          refine ⟨by first | with_reducible rfl | rfl, ?_⟩ -- (↑got.length : Int) = (↑got.length : Int)
          refine ⟨by first | with_reducible rfl | rfl, ?_⟩ -- n16 = n16
          refine ⟨by first | with_reducible rfl | rfl, ?_⟩ -- an = an
          refine ⟨by first | with_reducible rfl | rfl, ?_⟩ -- la = la
          refine ⟨by first | with_reducible rfl | rfl, ?_⟩ -- ag = ag
          refine ⟨by first | with_reducible rfl | rfl, ?_⟩ -- false = false
          refine ⟨by first | with_reducible rfl | rfl, ?_⟩ -- (0 : Int) = (0 : Int)
          refine ⟨by first | with_reducible rfl | rfl, ?_⟩ -- (0 : Int) = (0 : Int)
          refine ⟨?_, ?_⟩
          · -- left
            refine ⟨by first | omega | (dsimp only; omega), ?_⟩ -- (0 : Int) ≤ n16 ∧ n16 ≤ (↑got.length : Int)
            intro j_19
            intro h8 -- j_19 < n16.toNat
            -- (got.getD j_19 (dflt (8 : Nat))).body.length ≤ (512 : Nat)
            rcases Nat.lt_or_ge j_19 v_11.toNat with c | c
            · exact h5.2 _ c
            · rw [show j_19 = v_11.toNat by omega]; omega
          exact by show ((↑got.length : Int) - n16).toNat < ((↑got.length : Int) - v_11).toNat; omega -- ((↑got.length : Int) - n16).toNat < ((↑got.length : Int) - v_11).toNat
      · -- no
        intro n21
        intro q21 -- n21 = (↑got.length : Int)
        intro ⟨l21, u21⟩ -- (-9223372036854775808 : Int) ≤ n21 ∧ n21 ≤ (9223372036854775807 : Int)
        refine ⟨?_, ?_⟩
        · -- left
          refine ⟨((0 : Int), an, la, (0 : Nat), []), ?_⟩
          refine ⟨by first | with_reducible rfl | rfl, ?_⟩ -- (0 : Nat) = (0 : Nat)
          refine ⟨by first | with_reducible rfl | rfl, ?_⟩ -- (0 : Nat) = (0 : Nat)
          refine ⟨by first | with_reducible rfl | rfl, ?_⟩ -- got = got
          refine ⟨by show n21 = (↑got.length : Int); assumption, ?_⟩ -- n21 = (↑got.length : Int)
          refine ⟨by first | with_reducible rfl | rfl, ?_⟩ -- (0 : Int) = (0 : Int)
          refine ⟨by first | with_reducible rfl | rfl, ?_⟩ -- an = an
          refine ⟨by first | with_reducible rfl | rfl, ?_⟩ -- la = la
          refine ⟨by first | with_reducible rfl | rfl, ?_⟩ -- ag = ag
          refine ⟨by first | with_reducible rfl | rfl, ?_⟩ -- false = false
          refine ⟨by first | with_reducible rfl | rfl, ?_⟩ -- (0 : Int) = (0 : Int)
          refine ⟨by first | with_reducible rfl | rfl, ?_⟩ -- (0 : Int) = (0 : Int)
          refine ⟨by first | with_reducible rfl | rfl, ?_⟩ -- [] = []
          refine ⟨by first | omega | (dsimp only; omega), ?_⟩ -- (0 : Int) ≤ (0 : Int) ∧ (0 : Int) ≤ (↑got.length : Int)
          refine ⟨by exact ⟨by assumption, by assumption⟩, ?_⟩ -- (0 : Int) ≤ la ∧ la ≤ (4294967295 : Int)
          refine ⟨by rfl, ?_⟩ -- (an, la) = stk (an, la) (List.take (Int.toNat (0 : Int)) got)
          refine ⟨by rfl, ?_⟩ -- [] = tk (an, la) (List.take (Int.toNat (0 : Int)) got)
          refine ⟨by first | with_reducible rfl | rfl, ?_⟩ -- (0 : Nat) = (0 : Nat)
          refine ⟨by show (↑(0 : Nat) : Int) ≤ (0 : Int); omega, ?_⟩ -- (↑(0 : Nat) : Int) ≤ (0 : Int)
          refine ⟨by show got.length ≤ (1024 : Nat); omega, ?_⟩ -- got.length ≤ (1024 : Nat)
          -- bigB got = false
          exact bigB_take got fun j hj => h5.2 j (by omega)
        intro v_24
        intro h9 -- ((0 : Int) ≤ v_24.fst ∧ v_24.fst ≤ (↑got.length : Int)) ∧ ((0 : Int) ≤ v_24.snd.snd.fst ∧ v_24.snd.snd.fst ≤ (4294967295 : Int)) ∧ (v_24.snd.fst, v_24.snd.snd.fst) = stk (an, la) (List.take v_24.fst.toNat got) ∧ v_24.snd.snd.snd.snd = tk (an, la) (List.take v_24.fst.toNat got) ∧ v_24.snd.snd.snd.snd.length = v_24.snd.snd.snd.fst ∧ (↑v_24.snd.snd.snd.fst : Int) ≤ v_24.fst ∧ got.length ≤ (1024 : Nat) ∧ bigB got = false
        refine brd (fun c10 => ?_) (fun c10 => ?_) -- decide (v_24.fst < (↑got.length : Int))
        · -- yes
          refine ⟨by first | omega | (dsimp only; omega), ?_⟩ -- (0 : Int) ≤ v_24.fst
          refine ⟨by assumption, ?_⟩ -- v_24.fst < (↑got.length : Int)
          intro n26
          intro q26 -- n26 = (↑(got.getD v_24.fst.toNat (dflt (8 : Nat))).seq.toNat : Int)
          intro n28
          intro q28 -- n28 = v_24.snd.snd.fst
          refine br_intro (fun c11 => ?_) (fun c11 => ?_) -- bif v_24.snd.fst then decide (n26 ≤ n28) else false
          · -- yes
            simp at c11 -- v_24.snd.fst = true ∧ n26 ≤ n28
            intro n30
            intro q30 -- n30 = IntKind.i64.wrap (v_24.fst + (1 : Int))
            rw [IntKind.wrap_i64] at q30
            intro ⟨l30, u30⟩ -- (-9223372036854775808 : Int) ≤ n30 ∧ n30 ≤ (9223372036854775807 : Int)
            refine ⟨(n30, v_24.snd.fst, v_24.snd.snd.fst, v_24.snd.snd.snd.fst, v_24.snd.snd.snd.snd), ?_⟩
            refine ⟨by first | with_reducible rfl | rfl, ?_⟩ -- (0 : Nat) = (0 : Nat)
            refine ⟨by first | with_reducible rfl | rfl, ?_⟩ -- v_24.snd.snd.snd.fst = v_24.snd.snd.snd.fst
            refine ⟨by first | with_reducible rfl | rfl, ?_⟩ -- got = got
            refine ⟨by first | with_reducible rfl | rfl, ?_⟩ -- (↑got.length : Int) = (↑got.length : Int)
            refine ⟨by first | with_reducible rfl | rfl, ?_⟩ -- n30 = n30
            refine ⟨by first | with_reducible rfl | rfl, ?_⟩ -- v_24.snd.fst = v_24.snd.fst
            refine ⟨by first | with_reducible rfl | rfl, ?_⟩ -- v_24.snd.snd.fst = v_24.snd.snd.fst
            refine ⟨by first | with_reducible rfl | rfl, ?_⟩ -- ag = ag
            refine ⟨by first | with_reducible rfl | rfl, ?_⟩ -- false = false
            refine ⟨by first | with_reducible rfl | rfl, ?_⟩ -- (0 : Int) = (0 : Int)
            refine ⟨by first | with_reducible rfl | rfl, ?_⟩ -- (0 : Int) = (0 : Int)
            refine ⟨by first | with_reducible rfl | rfl, ?_⟩ -- v_24.snd.snd.snd.snd = v_24.snd.snd.snd.snd
            refine ⟨?_, ?_⟩
            · -- left
              refine ⟨by first | omega | (dsimp only; omega), ?_⟩ -- (0 : Int) ≤ n30 ∧ n30 ≤ (↑got.length : Int)
              refine ⟨by first | omega | (dsimp only; omega), ?_⟩ -- (0 : Int) ≤ v_24.snd.snd.fst ∧ v_24.snd.snd.fst ≤ (4294967295 : Int)
              have h12 : (v_24.snd.fst, v_24.snd.snd.fst) = stk (an, la) (List.take n30.toNat got) := by
                rw [show n30 = v_24.fst + 1 by omega, stk_succ _ _ h9.1.1 c10, ← h9.2.2.1]
                unfold stp
                rw [if_pos (old_t c11.1 (by omega))]
              refine ⟨h12, ?_⟩
              have h13 : v_24.snd.snd.snd.snd = tk (an, la) (List.take n30.toNat got) := by
                rw [show n30 = v_24.fst + 1 by omega, tk_succ _ _ h9.1.1 c10, ← h9.2.2.1, if_pos (old_t c11.1 (by omega)), List.append_nil]; exact h9.2.2.2.1
              refine ⟨h13, ?_⟩
              refine ⟨by show v_24.snd.snd.snd.snd.length = v_24.snd.snd.snd.fst; omega, ?_⟩ -- v_24.snd.snd.snd.snd.length = v_24.snd.snd.snd.fst
              refine ⟨by show (↑v_24.snd.snd.snd.fst : Int) ≤ n30; omega, ?_⟩ -- (↑v_24.snd.snd.snd.fst : Int) ≤ n30
              refine ⟨by show got.length ≤ (1024 : Nat); omega, ?_⟩ -- got.length ≤ (1024 : Nat)
              -- bigB got = false
              exact h9.2.2.2.2.2.2.2
            exact by show ((↑got.length : Int) - n30).toNat < ((↑got.length : Int) - v_24.fst).toNat; omega -- ((↑got.length : Int) - n30).toNat < ((↑got.length : Int) - v_24.fst).toNat
          · -- no
            simp at c11 -- v_24.snd.fst = true → n28 < n26
            refine ⟨?_, ?_⟩
            · -- left
              refine ⟨?_, ?_⟩
              · -- left
                intro n33
                intro q33 -- n33 = (↑(got.getD v_24.fst.toNat (dflt (8 : Nat))).seq.toNat : Int)
                intro ⟨l33, u33⟩ -- (0 : Int) ≤ n33 ∧ n33 ≤ (4294967295 : Int)
                have h14 : (got.getD v_24.fst.toNat (dflt (8 : Nat))).body.length ≤ (1000000 : Nat) := by
                  have := bigB_none h9.2.2.2.2.2.2.2 (j := v_24.fst.toNat) (by omega)
                  omega
                refine ⟨h14, ?_⟩
                refine ⟨by first | omega | (dsimp only; omega), ?_⟩ -- (v_24.snd.snd.snd.fst + (1 : Nat)) * (32 : Nat) ≤ (140737488355328 : Nat)
                intro z36
                intro qz36 -- z36 = List.take v_24.snd.snd.snd.fst v_24.snd.snd.snd.snd ++ List.take (1 : Nat) (List.drop (0 : Nat) [{ kind := UInt8.ofNat (↑(got.getD v_24.fst.toNat (dflt (8 : Nat))).kind.toNat : Int).toNat, seq := UInt32.ofNat (↑(got.getD v_24.fst.toNat (dflt (8 : Nat))).seq.toNat : Int).toNat, body := List.take (got.getD v_24.fst.toNat (dflt (8 : Nat))).body.length (List.drop (0 : Nat) (got.getD v_24.fst.toNat (dflt (8 : Nat))).body) : Msg }])
                intro n38
                intro q38 -- n38 = IntKind.i64.wrap (v_24.fst + (1 : Int))
                rw [IntKind.wrap_i64] at q38
                intro ⟨l38, u38⟩ -- (-9223372036854775808 : Int) ≤ n38 ∧ n38 ≤ (9223372036854775807 : Int)
                refine ⟨(n38, true, n33, v_24.snd.snd.snd.fst + (1 : Nat), z36), ?_⟩
                refine ⟨by first | with_reducible rfl | rfl, ?_⟩ -- (0 : Nat) = (0 : Nat)
                refine ⟨by first | with_reducible rfl | rfl, ?_⟩ -- v_24.snd.snd.snd.fst + (1 : Nat) = v_24.snd.snd.snd.fst + (1 : Nat)
                refine ⟨by first | with_reducible rfl | rfl, ?_⟩ -- got = got
                refine ⟨by first | with_reducible rfl | rfl, ?_⟩ -- (↑got.length : Int) = (↑got.length : Int)
                refine ⟨by first | with_reducible rfl | rfl, ?_⟩ -- n38 = n38
                refine ⟨by first | with_reducible rfl | rfl, ?_⟩ -- true = true
                refine ⟨by first | with_reducible rfl | rfl, ?_⟩ -- n33 = n33
                refine ⟨by first | with_reducible rfl | rfl, ?_⟩ -- ag = ag
                refine ⟨by first | with_reducible rfl | rfl, ?_⟩ -- false = false
                refine ⟨by first | with_reducible rfl | rfl, ?_⟩ -- (0 : Int) = (0 : Int)
                refine ⟨by first | with_reducible rfl | rfl, ?_⟩ -- (0 : Int) = (0 : Int)
                refine ⟨by first | with_reducible rfl | rfl, ?_⟩ -- z36 = z36
                refine ⟨?_, ?_⟩
                · -- left
                  refine ⟨by first | omega | (dsimp only; omega), ?_⟩ -- (0 : Int) ≤ n38 ∧ n38 ≤ (↑got.length : Int)
                  refine ⟨by exact ⟨by assumption, by assumption⟩, ?_⟩ -- (0 : Int) ≤ n33 ∧ n33 ≤ (4294967295 : Int)
                  have h15 : (true, n33) = stk (an, la) (List.take n38.toNat got) := by
                    rw [show n38 = v_24.fst + 1 by omega, stk_succ _ _ h9.1.1 c10, ← h9.2.2.1]
                    unfold stp
                    rw [if_neg (old_f fun a => (by have := c11 a; omega)), q33]
                  refine ⟨h15, ?_⟩
                  have h16 : z36 = tk (an, la) (List.take n38.toNat got) := by
                    rw [show n38 = v_24.fst + 1 by omega, tk_succ _ _ h9.1.1 c10, ← h9.2.2.1, if_neg (old_f fun a => (by have := c11 a; omega)), qz36, mk_msg, List.take_of_length_le (by omega), h9.2.2.2.1]
                    rfl
                  refine ⟨h16, ?_⟩
                  have h17 : z36.length = v_24.snd.snd.snd.fst + (1 : Nat) := by
                    rw [qz36]; simp; omega
                  refine ⟨h17, ?_⟩
                  refine ⟨by show (↑(v_24.snd.snd.snd.fst + (1 : Nat)) : Int) ≤ n38; omega, ?_⟩ -- (↑(v_24.snd.snd.snd.fst + (1 : Nat)) : Int) ≤ n38
                  refine ⟨by show got.length ≤ (1024 : Nat); omega, ?_⟩ -- got.length ≤ (1024 : Nat)
                  -- bigB got = false
                  exact h9.2.2.2.2.2.2.2
                exact by show ((↑got.length : Int) - n38).toNat < ((↑got.length : Int) - v_24.fst).toNat; omega -- ((↑got.length : Int) - n38).toNat < ((↑got.length : Int) - v_24.fst).toNat
              intro n41
              intro q41 -- n41 = (↑(got.getD v_24.fst.toNat (dflt (8 : Nat))).seq.toNat : Int)
              intro ⟨l41, u41⟩ -- (0 : Int) ≤ n41 ∧ n41 ≤ (4294967295 : Int)
              have h18 : (got.getD v_24.fst.toNat (dflt (8 : Nat))).body.length ≤ (1000000 : Nat) := by
                have := bigB_none h9.2.2.2.2.2.2.2 (j := v_24.fst.toNat) (by omega)
                omega
              refine ⟨h18, ?_⟩
              refine ⟨by first | omega | (dsimp only; omega), ?_⟩ -- (v_24.snd.snd.snd.fst + (1 : Nat)) * (32 : Nat) ≤ (140737488355328 : Nat)
              intro z44
              intro qz44 -- z44 = List.take v_24.snd.snd.snd.fst v_24.snd.snd.snd.snd ++ List.take (1 : Nat) (List.drop (0 : Nat) [{ kind := UInt8.ofNat (↑(got.getD v_24.fst.toNat (dflt (8 : Nat))).kind.toNat : Int).toNat, seq := UInt32.ofNat (↑(got.getD v_24.fst.toNat (dflt (8 : Nat))).seq.toNat : Int).toNat, body := List.take (got.getD v_24.fst.toNat (dflt (8 : Nat))).body.length (List.drop (0 : Nat) (got.getD v_24.fst.toNat (dflt (8 : Nat))).body) : Msg }])
              intro n46
              intro q46 -- n46 = IntKind.i64.wrap (v_24.fst + (1 : Int))
              rw [IntKind.wrap_i64] at q46
              intro ⟨l46, u46⟩ -- (-9223372036854775808 : Int) ≤ n46 ∧ n46 ≤ (9223372036854775807 : Int)
              refine ⟨(n46, true, n41, v_24.snd.snd.snd.fst + (1 : Nat), z44), ?_⟩
              refine ⟨by first | with_reducible rfl | rfl, ?_⟩ -- (0 : Nat) = (0 : Nat)
              refine ⟨by first | with_reducible rfl | rfl, ?_⟩ -- v_24.snd.snd.snd.fst + (1 : Nat) = v_24.snd.snd.snd.fst + (1 : Nat)
              refine ⟨by first | with_reducible rfl | rfl, ?_⟩ -- got = got
              refine ⟨by first | with_reducible rfl | rfl, ?_⟩ -- (↑got.length : Int) = (↑got.length : Int)
              refine ⟨by first | with_reducible rfl | rfl, ?_⟩ -- n46 = n46
              refine ⟨by first | with_reducible rfl | rfl, ?_⟩ -- true = true
              refine ⟨by first | with_reducible rfl | rfl, ?_⟩ -- n41 = n41
              refine ⟨by first | with_reducible rfl | rfl, ?_⟩ -- ag = ag
              refine ⟨by first | with_reducible rfl | rfl, ?_⟩ -- false = false
              refine ⟨by first | with_reducible rfl | rfl, ?_⟩ -- (0 : Int) = (0 : Int)
              refine ⟨by first | with_reducible rfl | rfl, ?_⟩ -- (0 : Int) = (0 : Int)
              refine ⟨by first | with_reducible rfl | rfl, ?_⟩ -- z44 = z44
              refine ⟨?_, ?_⟩
              · -- left
                refine ⟨by first | omega | (dsimp only; omega), ?_⟩ -- (0 : Int) ≤ n46 ∧ n46 ≤ (↑got.length : Int)
                refine ⟨by exact ⟨by assumption, by assumption⟩, ?_⟩ -- (0 : Int) ≤ n41 ∧ n41 ≤ (4294967295 : Int)
                have h19 : (true, n41) = stk (an, la) (List.take n46.toNat got) := by
                  rw [show n46 = v_24.fst + 1 by omega, stk_succ _ _ h9.1.1 c10, ← h9.2.2.1]
                  unfold stp
                  rw [if_neg (old_f fun a => (by have := c11 a; omega)), q41]
                refine ⟨h19, ?_⟩
                have h20 : z44 = tk (an, la) (List.take n46.toNat got) := by
                  rw [show n46 = v_24.fst + 1 by omega, tk_succ _ _ h9.1.1 c10, ← h9.2.2.1, if_neg (old_f fun a => (by have := c11 a; omega)), qz44, mk_msg, List.take_of_length_le (by omega), h9.2.2.2.1]
                  rfl
                refine ⟨h20, ?_⟩
                have h21 : z44.length = v_24.snd.snd.snd.fst + (1 : Nat) := by
                  rw [qz44]; simp; omega
                refine ⟨h21, ?_⟩
                refine ⟨by show (↑(v_24.snd.snd.snd.fst + (1 : Nat)) : Int) ≤ n46; omega, ?_⟩ -- (↑(v_24.snd.snd.snd.fst + (1 : Nat)) : Int) ≤ n46
                refine ⟨by show got.length ≤ (1024 : Nat); omega, ?_⟩ -- got.length ≤ (1024 : Nat)
                -- bigB got = false
                exact h9.2.2.2.2.2.2.2
              exact by show ((↑got.length : Int) - n46).toNat < ((↑got.length : Int) - v_24.fst).toNat; omega -- ((↑got.length : Int) - n46).toNat < ((↑got.length : Int) - v_24.fst).toNat
            intro n49
            intro q49 -- n49 = (↑(got.getD v_24.fst.toNat (dflt (8 : Nat))).seq.toNat : Int)
            intro ⟨l49, u49⟩ -- (0 : Int) ≤ n49 ∧ n49 ≤ (4294967295 : Int)
            have h22 : (got.getD v_24.fst.toNat (dflt (8 : Nat))).body.length ≤ (1000000 : Nat) := by
              have := bigB_none h9.2.2.2.2.2.2.2 (j := v_24.fst.toNat) (by omega)
              omega
            refine ⟨h22, ?_⟩
            refine ⟨by first | omega | (dsimp only; omega), ?_⟩ -- (v_24.snd.snd.snd.fst + (1 : Nat)) * (32 : Nat) ≤ (140737488355328 : Nat)
            intro z52
            intro qz52 -- z52 = List.take v_24.snd.snd.snd.fst v_24.snd.snd.snd.snd ++ List.take (1 : Nat) (List.drop (0 : Nat) [{ kind := UInt8.ofNat (↑(got.getD v_24.fst.toNat (dflt (8 : Nat))).kind.toNat : Int).toNat, seq := UInt32.ofNat (↑(got.getD v_24.fst.toNat (dflt (8 : Nat))).seq.toNat : Int).toNat, body := List.take (got.getD v_24.fst.toNat (dflt (8 : Nat))).body.length (List.drop (0 : Nat) (got.getD v_24.fst.toNat (dflt (8 : Nat))).body) : Msg }])
            intro n54
            intro q54 -- n54 = IntKind.i64.wrap (v_24.fst + (1 : Int))
            rw [IntKind.wrap_i64] at q54
            intro ⟨l54, u54⟩ -- (-9223372036854775808 : Int) ≤ n54 ∧ n54 ≤ (9223372036854775807 : Int)
            refine ⟨(n54, true, n49, v_24.snd.snd.snd.fst + (1 : Nat), z52), ?_⟩
            refine ⟨by first | with_reducible rfl | rfl, ?_⟩ -- (0 : Nat) = (0 : Nat)
            refine ⟨by first | with_reducible rfl | rfl, ?_⟩ -- v_24.snd.snd.snd.fst + (1 : Nat) = v_24.snd.snd.snd.fst + (1 : Nat)
            refine ⟨by first | with_reducible rfl | rfl, ?_⟩ -- got = got
            refine ⟨by first | with_reducible rfl | rfl, ?_⟩ -- (↑got.length : Int) = (↑got.length : Int)
            refine ⟨by first | with_reducible rfl | rfl, ?_⟩ -- n54 = n54
            refine ⟨by first | with_reducible rfl | rfl, ?_⟩ -- true = true
            refine ⟨by first | with_reducible rfl | rfl, ?_⟩ -- n49 = n49
            refine ⟨by first | with_reducible rfl | rfl, ?_⟩ -- ag = ag
            refine ⟨by first | with_reducible rfl | rfl, ?_⟩ -- false = false
            refine ⟨by first | with_reducible rfl | rfl, ?_⟩ -- (0 : Int) = (0 : Int)
            refine ⟨by first | with_reducible rfl | rfl, ?_⟩ -- (0 : Int) = (0 : Int)
            refine ⟨by first | with_reducible rfl | rfl, ?_⟩ -- z52 = z52
            refine ⟨?_, ?_⟩
            · -- left
              refine ⟨by first | omega | (dsimp only; omega), ?_⟩ -- (0 : Int) ≤ n54 ∧ n54 ≤ (↑got.length : Int)
              refine ⟨by exact ⟨by assumption, by assumption⟩, ?_⟩ -- (0 : Int) ≤ n49 ∧ n49 ≤ (4294967295 : Int)
              have h23 : (true, n49) = stk (an, la) (List.take n54.toNat got) := by
                rw [show n54 = v_24.fst + 1 by omega, stk_succ _ _ h9.1.1 c10, ← h9.2.2.1]
                unfold stp
                rw [if_neg (old_f fun a => (by have := c11 a; omega)), q49]
              refine ⟨h23, ?_⟩
              have h24 : z52 = tk (an, la) (List.take n54.toNat got) := by
                rw [show n54 = v_24.fst + 1 by omega, tk_succ _ _ h9.1.1 c10, ← h9.2.2.1, if_neg (old_f fun a => (by have := c11 a; omega)), qz52, mk_msg, List.take_of_length_le (by omega), h9.2.2.2.1]
                rfl
              refine ⟨h24, ?_⟩
              have h25 : z52.length = v_24.snd.snd.snd.fst + (1 : Nat) := by
                rw [qz52]; simp; omega
              refine ⟨h25, ?_⟩
              refine ⟨by show (↑(v_24.snd.snd.snd.fst + (1 : Nat)) : Int) ≤ n54; omega, ?_⟩ -- (↑(v_24.snd.snd.snd.fst + (1 : Nat)) : Int) ≤ n54
              refine ⟨by show got.length ≤ (1024 : Nat); omega, ?_⟩ -- got.length ≤ (1024 : Nat)
              -- bigB got = false
              exact h9.2.2.2.2.2.2.2
            exact by show ((↑got.length : Int) - n54).toNat < ((↑got.length : Int) - v_24.fst).toNat; omega -- ((↑got.length : Int) - n54).toNat < ((↑got.length : Int) - v_24.fst).toNat
        · -- no
          intro n57
          intro q57 -- n57 = ag
          intro ⟨l57, u57⟩ -- (-9223372036854775808 : Int) ≤ n57 ∧ n57 ≤ (9223372036854775807 : Int)
          intro n60
          intro q60 -- n60 = IntKind.i64.wrap (n57 + (1 : Int))
          rw [IntKind.wrap_i64] at q60
          intro ⟨l60, u60⟩ -- (-9223372036854775808 : Int) ≤ n60 ∧ n60 ≤ (9223372036854775807 : Int)
          intro n63
          intro q63 -- n63 = min n60 (1048576 : Int)
          intro ⟨l63, u63⟩ -- (-9223372036854775808 : Int) ≤ n63 ∧ n63 ≤ (9223372036854775807 : Int)
          intro n66
          intro q66 -- n66 = (↑v_24.snd.snd.snd.fst : Int)
          intro ⟨l66, u66⟩ -- (-9223372036854775808 : Int) ≤ n66 ∧ n66 ≤ (9223372036854775807 : Int)
          refine brd (fun c26 => ?_) (fun c26 => ?_) -- decide (n66 > (0 : Int))
          · -- yes
            -- k (AV.tup [AV.agg [AV.bool v_24.snd.fst, AV.int IntKind.u32 v_24.snd.snd.fst, AV.int IntKind.i64 (0 : Int)], AV.row (8 : Nat) (0 : Nat) (0 : Nat) v_24.snd.snd.snd.fst, AV.int IntKind.i64 (0 : Int)]) [] [Blk.row (8 : Nat) v_24.snd.snd.snd.snd]
            exact hk.2 (lE_0 (nb h1 c2) (by omega) h9.2.2.2.2.2.2.2) _ _ _ _ _ (by rw [h9.2.2.1, List.take_of_length_le (by omega)]) h9.2.1 (by rw [h9.2.2.2.1, List.take_of_length_le (by omega)]) h9.2.2.2.2.1 (by unfold ageN; rw [if_pos (by omega)])
          · -- no
            -- k (AV.tup [AV.agg [AV.bool v_24.snd.fst, AV.int IntKind.u32 v_24.snd.snd.fst, AV.int IntKind.i64 n63], AV.row (8 : Nat) (0 : Nat) (0 : Nat) v_24.snd.snd.snd.fst, AV.int IntKind.i64 (0 : Int)]) [] [Blk.row (8 : Nat) v_24.snd.snd.snd.snd]
            have na := nb_age (nb h1 c2)
            exact hk.2 (lE_0 (nb h1 c2) (by omega) h9.2.2.2.2.2.2.2) _ _ _ _ _ (by rw [h9.2.2.1, List.take_of_length_le (by omega)]) h9.2.1 (by rw [h9.2.2.2.1, List.take_of_length_le (by omega)]) h9.2.2.2.2.1 (by unfold ageN; rw [if_neg (by omega)]; omega)

theorem next_ok : Holds Try.prog 12 nextS := by
  refine fn_sound (env := mkEnv T1) (tab_ok T1_ok) Try.func12 Try.call12 fun args k h => ?_
  match args, h with
  | [.agg [.bool an, .int .u32 la, .int .i64 ag], .sl 8 got], h => exact ⟨by kernel_rfl, nextLoops an la ag got, fun _ _ => none, .cast (by kernel_rfl) (next_vc an la h.1.1 h.1.2 ag h.2.1.1 h.2.1.2 got k h.2.2)⟩
end Go.Proofs.Ytpkfadgennejnaa

