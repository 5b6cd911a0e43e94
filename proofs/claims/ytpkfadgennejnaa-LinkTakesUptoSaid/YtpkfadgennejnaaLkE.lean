import Derived.Test.YtpkfadgennejnaaLkD
namespace Go.Proofs.Ytpkfadgennejnaa
open Go Go.Eng Go.Lk Go.Proofs
set_option linter.unusedVariables false
set_option maxHeartbeats 2000000 in
theorem of_vc (xs : List UInt32) (hx : xs.length ≤ (1000000 : Nat)) (k : AV → List (Option Blk) → List Blk → Prop) (hk : ∀ (ys : List Msg) (n : Nat), ys = List.map msg xs → ys.length = n → k (AV.row (8 : Nat) (0 : Nat) (0 : Nat) n) [] [Blk.row (8 : Nat) ys]) :
 (
 ∃ (v : Int × List Msg),
 (xs = xs) ∧
 ((0 : Nat) = (0 : Nat)) ∧
 ((0 : Nat) = v.snd.length) ∧
 ((0 : Int) = v.fst) ∧
 ([] = v.snd) ∧
 (
  ((0 : Int) ≤ v.fst) ∧
  (v.fst ≤ (↑xs.length : Int))) ∧
 (v.snd = List.map msg (List.take v.fst.toNat xs)) ∧
 ((↑v.snd.length : Int) = v.fst)) ∧
 ∀ (v_1 : Int × List Msg),
 (((0 : Int) ≤ v_1.fst ∧ v_1.fst ≤ (↑xs.length : Int)) ∧ v_1.snd = List.map msg (List.take v_1.fst.toNat xs) ∧ (↑v_1.snd.length : Int) = v_1.fst) →
 ∀ (n3 : Int),
 (n3 = (↑xs.length : Int)) →
 ((-9223372036854775808 : Int) ≤ n3 ∧ n3 ≤ (9223372036854775807 : Int)) →
 br (decide (v_1.fst < n3))
 (((0 : Int) ≤ v_1.fst) ∧
  (v_1.fst < (↑xs.length : Int)) ∧
  ∀ (n6 : Int),
  (n6 = (↑(xs.getD v_1.fst.toNat (0 : UInt32)).toNat : Int)) →
  ((0 : Int) ≤ n6 ∧ n6 ≤ (4294967295 : Int)) →
  ((v_1.snd.length + (1 : Nat)) * (32 : Nat) ≤ (140737488355328 : Nat)) ∧
  ∀ (z9 : List Msg),
  (z9 = List.take v_1.snd.length v_1.snd ++ List.take (1 : Nat) (List.drop (0 : Nat) [{ kind := UInt8.ofNat (Int.toNat (2 : Int)), seq := UInt32.ofNat n6.toNat, body := [] : Msg }])) →
  ∀ (n11 : Int),
  (n11 = IntKind.i64.wrap (v_1.fst + (1 : Int))) →
  ((-9223372036854775808 : Int) ≤ n11 ∧ n11 ≤ (9223372036854775807 : Int)) →
  ∃ (v' : Int × List Msg),
  (xs = xs) ∧
  ((0 : Nat) = (0 : Nat)) ∧
  (v_1.snd.length + (1 : Nat) = v'.snd.length) ∧
  (n11 = v'.fst) ∧
  (z9 = v'.snd) ∧
  (
  (
   ((0 : Int) ≤ v'.fst) ∧
   (v'.fst ≤ (↑xs.length : Int))) ∧
  (v'.snd = List.map msg (List.take v'.fst.toNat xs)) ∧
  ((↑v'.snd.length : Int) = v'.fst)) ∧
  (((↑xs.length : Int) - v'.fst).toNat < ((↑xs.length : Int) - v_1.fst).toNat))
 ((k (AV.row (8 : Nat) (0 : Nat) (0 : Nat) v_1.snd.length) [] [Blk.row (8 : Nat) v_1.snd])) := by
 refine ⟨?_, ?_⟩
 ·
  refine ⟨((0 : Int), []), ?_⟩
  refine ⟨by first | with_reducible rfl | rfl, ?_⟩
  refine ⟨by first | with_reducible rfl | rfl, ?_⟩
  refine ⟨by first | with_reducible rfl | rfl, ?_⟩
  refine ⟨by first | with_reducible rfl | rfl, ?_⟩
  refine ⟨by first | with_reducible rfl | rfl, ?_⟩
  refine ⟨by first | omega | (dsimp only; omega), ?_⟩
  refine ⟨by rfl, ?_⟩
  exact by show (↑(0 : Nat) : Int) = (0 : Int); omega
 intro v_1
 intro h1
 intro n3
 intro q3
 intro ⟨l3, u3⟩
 refine brd (fun c2 => ?_) (fun c2 => ?_)
 ·
  refine ⟨by first | omega | (dsimp only; omega), ?_⟩
  refine ⟨by first | omega | (dsimp only; omega), ?_⟩
  intro n6
  intro q6
  intro ⟨l6, u6⟩
  refine ⟨by first | omega | (dsimp only; omega), ?_⟩
  intro z9
  intro qz9
  intro n11
  intro q11
  rw [IntKind.wrap_i64] at q11
  intro ⟨l11, u11⟩
  refine ⟨(n11, z9), ?_⟩
  refine ⟨by first | with_reducible rfl | rfl, ?_⟩
  refine ⟨by first | with_reducible rfl | rfl, ?_⟩
  have h3 : v_1.snd.length + (1 : Nat) = z9.length := by
   rw [qz9]; simp
  refine ⟨h3, ?_⟩
  refine ⟨by first | with_reducible rfl | rfl, ?_⟩
  refine ⟨by first | with_reducible rfl | rfl, ?_⟩
  refine ⟨?_, ?_⟩
  ·
   refine ⟨by first | omega | (dsimp only; omega), ?_⟩
   have h4 : z9 = List.map msg (List.take n11.toNat xs) := by
    rw [qz9, show n11.toNat = v_1.fst.toNat + 1 by omega, take_step xs (0 : UInt32) (by omega), List.map_append, ← h1.2.1, List.take_of_length_le (Nat.le_refl _), q6, Int.toNat_natCast, UInt32.ofNat_toNat]
    rfl
   refine ⟨h4, ?_⟩
   exact by show (↑z9.length : Int) = n11; omega
  exact by show ((↑xs.length : Int) - n11).toNat < ((↑xs.length : Int) - v_1.fst).toNat; omega
 ·
  exact hk _ _ (by rw [h1.2.1, List.take_of_length_le (by omega)]) rfl

theorem of_ok : Holds Try.prog 13 ofS := by
  refine fn_sound (env := mkEnv T0) (tab_ok T0_ok) Try.func13 Try.call13 fun args k h => ?_
  match args, h with
  | [.sl 2 xs], h => exact ⟨by kernel_rfl, ofLoops xs, fun _ _ => none, .cast (by kernel_rfl) (of_vc xs h.1 k h.2)⟩
set_option maxHeartbeats 2000000 in
theorem fresh_vc (an : Bool) (la : Int) (la0 : (0 : Int) ≤ la) (la1 : la ≤ (4294967295 : Int)) (ag : Int) (ag0 : (-9223372036854775808 : Int) ≤ ag) (ag1 : ag ≤ (9223372036854775807 : Int)) (w : Int) (w0 : (-9223372036854775808 : Int) ≤ w) (w1 : w ≤ (9223372036854775807 : Int)) (k : AV → List (Option Blk) → List Blk → Prop) (hk : (∀ (e : Int), e = fE an la ag w → e ≠ (0 : Int) → k (AV.tup [AV.bool false, AV.int IntKind.i64 e]) [] []) ∧ (fE an la ag w = (0 : Int) → ∀ (b : Bool), b = (an && decide (ag < w)) → k (AV.tup [AV.bool b, AV.int IntKind.i64 (0 : Int)]) [] [])) :
 (
 ((0 : Int) ≤ la) ∧
 (la ≤ (4294967295 : Int))) ∧
 (
 ((-9223372036854775808 : Int) ≤ ag) ∧
 (ag ≤ (9223372036854775807 : Int))) ∧
 ∀ (e_1 : Int),
 (e_1 = if lkBad an la ag then (8 : Int) else (0 : Int)) →
 br (e_1 != (0 : Int))
 ((k (AV.tup [AV.bool false, AV.int IntKind.i64 e_1]) [] []))
 (br (bif decide (w < (1 : Int)) then true else decide (w > (1048576 : Int)))
  ((k (AV.tup [AV.bool false, AV.int IntKind.i64 (2 : Int)]) [] []))
  (∀ (n3 : Int),
   (n3 = ag) →
   (k (AV.tup [AV.bool (bif an then decide (n3 < w) else false), AV.int IntKind.i64 (0 : Int)]) [] []))) := by
 refine ⟨by exact ⟨by assumption, by assumption⟩, ?_⟩
 refine ⟨by exact ⟨by assumption, by assumption⟩, ?_⟩
 intro e_1
 intro h1
 refine br_intro (fun c2 => ?_) (fun c2 => ?_)
 ·
  simp at c2
  exact hk.1 e_1 (fE_1 h1 c2) c2
 ·
  simp at c2
  refine br_intro (fun c3 => ?_) (fun c3 => ?_)
  ·
   simp at c3
   exact hk.1 2 (fE_2 (nb h1 c2) c3) (by decide)
  ·
   simp at c3
   intro n3
   intro q3
   exact hk.2 (fE_0 (nb h1 c2) (by omega)) _ (by rw [q3]; cases an <;> rfl)

theorem fresh_ok : Holds Try.prog 14 freshS := by
  refine fn_sound (env := mkEnv T1) (tab_ok T1_ok) Try.func14 Try.call14 fun args k h => ?_
  match args, h with
  | [.agg [.bool an, .int .u32 la, .int .i64 ag], .int .i64 w], h => exact ⟨by kernel_rfl, fun _ _ => none, fun _ _ => none, .cast (by kernel_rfl) (fresh_vc an la h.1.1 h.1.2 ag h.2.1.1 h.2.1.2 w h.2.2.1.1 h.2.2.1.2 k h.2.2.2)⟩
def T2 : Tab := [(12, nextS), (13, ofS)]
theorem T2_ok : TabOk Try.prog T2 := ⟨next_ok, of_ok, trivial⟩
end Go.Proofs.Ytpkfadgennejnaa

