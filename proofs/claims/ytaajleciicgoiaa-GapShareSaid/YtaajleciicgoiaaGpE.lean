import Derived.Test.YtaajleciicgoiaaGpD
namespace Go.Proofs.Ytaajleciicgoiaa
open Go Go.Eng Go.Fx Go.Proofs
set_option linter.unusedVariables false
def forceB (b : Bool) (k : Bool → Prop) : Prop := match b with
  | true => k true
  | false => k false
theorem forceB_ok {b : Bool} {k : Bool → Prop} (h : forceB b k) : k b := by cases b <;> exact h
def gF : List Bool → Bool → Int → Int → Int → Int → (Bool → Int → Int → Int → Int → Prop) → Prop
  | [], u, h, p, c, l, k => k u h p c l
  | b :: r, u, h, p, c, l, k => forceI (nH u h p c l b) fun h' => forceI (nP u h p c l b) fun p' => forceI (nC u h p c l b) fun c' => forceI (nL u h p c l b) fun l' => forceB (nU u h p c l b) fun u' => gF r u' h' p' c' l' k
theorem gF_ok : ∀ (xs : List Bool) (u : Bool) (h p c l : Int) (k : Bool → Int → Int → Int → Int → Prop), gF xs u h p c l k → k (xs.foldl gN (u, h, p, c, l)).1 (xs.foldl gN (u, h, p, c, l)).2.1 (xs.foldl gN (u, h, p, c, l)).2.2.1 (xs.foldl gN (u, h, p, c, l)).2.2.2.1 (xs.foldl gN (u, h, p, c, l)).2.2.2.2
  | [], u, h, p, c, l, k, hh => hh
  | b :: r, u, h, p, c, l, k, hh => gF_ok r _ _ _ _ _ k (forceB_ok (forceI_ok (k := fun l' => forceB (nU u h p c l b) fun u' => gF r u' (nH u h p c l b) (nP u h p c l b) (nC u h p c l b) l' k) (forceI_ok (k := fun c' => forceI (nL u h p c l b) fun l' => forceB (nU u h p c l b) fun u' => gF r u' (nH u h p c l b) (nP u h p c l b) c' l' k) (forceI_ok (k := fun p' => forceI (nC u h p c l b) fun c' => forceI (nL u h p c l b) fun l' => forceB (nU u h p c l b) fun u' => gF r u' (nH u h p c l b) p' c' l' k) (forceI_ok (k := fun h' => forceI (nP u h p c l b) fun p' => forceI (nC u h p c l b) fun c' => forceI (nL u h p c l b) fun l' => forceB (nU u h p c l b) fun u' => gF r u' h' p' c' l' k) hh)))))
def behindL : Eng.Spec := { ro := true, own := [], run := fun args _ k => match args with
  | [.sl 4 xs] => gF xs false 0 0 0 0 fun u h p c l => k (.tup [.agg [.bool u, .int .i64 h, .int .i64 p, .int .i64 c, .int .u64 l], .bool true]) [] []
  | _ => False }
set_option maxHeartbeats 2000000 in
theorem behind_vc (xs : List Bool) (k : AV → List (Option Blk) → List Blk → Prop) (hk : ∀ (u : Bool) (h p c l : Int), (u, h, p, c, l) = gS xs → (0 : Int) ≤ h ∧ h ≤ (1048576 : Int) → (0 : Int) ≤ p ∧ p ≤ (1048576 : Int) → (0 : Int) ≤ c ∧ c ≤ (1073741824 : Int) → (0 : Int) ≤ l ∧ l ≤ (18446744073709551615 : Int) → k (AV.tup [AV.agg [AV.bool u, AV.int IntKind.i64 h, AV.int IntKind.i64 p, AV.int IntKind.i64 c, AV.int IntKind.u64 l], AV.bool true]) [] []) :
  (
   ∃ (v : Int × GS),
   (xs = xs) ∧
   ((0 : Int) = v.fst) ∧
   (false = false) ∧
   ((0 : Int) = (0 : Int)) ∧
   ((0 : Int) = (0 : Int)) ∧
   ((0 : Int) = (0 : Int)) ∧
   ((0 : Int) = (0 : Int)) ∧
   (false = v.snd.fst) ∧
   ((0 : Int) = v.snd.snd.fst) ∧
   ((0 : Int) = v.snd.snd.snd.fst) ∧
   ((0 : Int) = v.snd.snd.snd.snd.fst) ∧
   ((0 : Int) = v.snd.snd.snd.snd.snd) ∧
   (
    ((0 : Int) ≤ v.fst) ∧
    (v.fst ≤ (↑xs.length : Int))) ∧
   (v.snd = gS (List.take v.fst.toNat xs))) ∧
  ∀ (v_1 : Int × GS),
  (((0 : Int) ≤ v_1.fst ∧ v_1.fst ≤ (↑xs.length : Int)) ∧ v_1.snd = gS (List.take v_1.fst.toNat xs)) →
  ∀ (n3 : Int),
  (n3 = (↑xs.length : Int)) →
  ((-9223372036854775808 : Int) ≤ n3 ∧ n3 ≤ (9223372036854775807 : Int)) →
  br (decide (v_1.fst < n3))
   (((0 : Int) ≤ v_1.fst) ∧
    (v_1.fst < (↑xs.length : Int)) ∧
    (
     (
      ((-9223372036854775808 : Int) ≤ v_1.snd.snd.fst) ∧
      (v_1.snd.snd.fst ≤ (9223372036854775807 : Int))) ∧
     (
      ((-9223372036854775808 : Int) ≤ v_1.snd.snd.snd.fst) ∧
      (v_1.snd.snd.snd.fst ≤ (9223372036854775807 : Int))) ∧
     (
      ((-9223372036854775808 : Int) ≤ v_1.snd.snd.snd.snd.fst) ∧
      (v_1.snd.snd.snd.snd.fst ≤ (9223372036854775807 : Int))) ∧
     (
      ((0 : Int) ≤ v_1.snd.snd.snd.snd.snd) ∧
      (v_1.snd.snd.snd.snd.snd ≤ (18446744073709551615 : Int))) ∧
     ∀ (u_6 : Bool),
     ∀ (h_7 : Int),
     ∀ (p_8 : Int),
     ∀ (c_9 : Int),
     ∀ (l_10 : Int),
     ∀ (e_11 : Int),
     (u_6 = nU v_1.snd.fst v_1.snd.snd.fst v_1.snd.snd.snd.fst v_1.snd.snd.snd.snd.fst v_1.snd.snd.snd.snd.snd (xs.getD v_1.fst.toNat false)) →
     (h_7 = nH v_1.snd.fst v_1.snd.snd.fst v_1.snd.snd.snd.fst v_1.snd.snd.snd.snd.fst v_1.snd.snd.snd.snd.snd (xs.getD v_1.fst.toNat false)) →
     (p_8 = nP v_1.snd.fst v_1.snd.snd.fst v_1.snd.snd.snd.fst v_1.snd.snd.snd.snd.fst v_1.snd.snd.snd.snd.snd (xs.getD v_1.fst.toNat false)) →
     (c_9 = nC v_1.snd.fst v_1.snd.snd.fst v_1.snd.snd.snd.fst v_1.snd.snd.snd.snd.fst v_1.snd.snd.snd.snd.snd (xs.getD v_1.fst.toNat false)) →
     (l_10 = nL v_1.snd.fst v_1.snd.snd.fst v_1.snd.snd.snd.fst v_1.snd.snd.snd.snd.fst v_1.snd.snd.snd.snd.snd (xs.getD v_1.fst.toNat false)) →
     (e_11 = gE v_1.snd.fst v_1.snd.snd.fst v_1.snd.snd.snd.fst v_1.snd.snd.snd.snd.fst v_1.snd.snd.snd.snd.snd) →
     ((0 : Int) ≤ h_7 ∧ h_7 ≤ (1048576 : Int)) →
     ((0 : Int) ≤ p_8 ∧ p_8 ≤ (1048576 : Int)) →
     ((0 : Int) ≤ c_9 ∧ c_9 ≤ (1073741824 : Int)) →
     ((0 : Int) ≤ l_10 ∧ l_10 ≤ (18446744073709551615 : Int)) →
     (e_11 = (0 : Int) ∨ e_11 = (8 : Int)) →
     (
      br (e_11 != (0 : Int))
       ((k (AV.tup [AV.agg [AV.bool false, AV.int IntKind.i64 (0 : Int), AV.int IntKind.i64 (0 : Int), AV.int IntKind.i64 (0 : Int), AV.int IntKind.u64 (0 : Int)], AV.bool false]) [] []))
       (∀ (n23 : Int),
        (n23 = IntKind.i64.wrap (v_1.fst + (1 : Int))) →
        ((-9223372036854775808 : Int) ≤ n23 ∧ n23 ≤ (9223372036854775807 : Int)) →
        ∃ (v' : Int × GS),
        (xs = xs) ∧
        (n23 = v'.fst) ∧
        (false = false) ∧
        ((0 : Int) = (0 : Int)) ∧
        ((0 : Int) = (0 : Int)) ∧
        ((0 : Int) = (0 : Int)) ∧
        ((0 : Int) = (0 : Int)) ∧
        (u_6 = v'.snd.fst) ∧
        (h_7 = v'.snd.snd.fst) ∧
        (p_8 = v'.snd.snd.snd.fst) ∧
        (c_9 = v'.snd.snd.snd.snd.fst) ∧
        (l_10 = v'.snd.snd.snd.snd.snd) ∧
        (
         (
          ((0 : Int) ≤ v'.fst) ∧
          (v'.fst ≤ (↑xs.length : Int))) ∧
         (v'.snd = gS (List.take v'.fst.toNat xs))) ∧
        (((↑xs.length : Int) - v'.fst).toNat < ((↑xs.length : Int) - v_1.fst).toNat))) ∧
     (
      br (e_11 != (0 : Int))
       ((k (AV.tup [AV.agg [AV.bool false, AV.int IntKind.i64 (0 : Int), AV.int IntKind.i64 (0 : Int), AV.int IntKind.i64 (0 : Int), AV.int IntKind.u64 (0 : Int)], AV.bool false]) [] []))
       (∀ (n26 : Int),
        (n26 = IntKind.i64.wrap (v_1.fst + (1 : Int))) →
        ((-9223372036854775808 : Int) ≤ n26 ∧ n26 ≤ (9223372036854775807 : Int)) →
        ∃ (v' : Int × GS),
        (xs = xs) ∧
        (n26 = v'.fst) ∧
        (false = false) ∧
        ((0 : Int) = (0 : Int)) ∧
        ((0 : Int) = (0 : Int)) ∧
        ((0 : Int) = (0 : Int)) ∧
        ((0 : Int) = (0 : Int)) ∧
        (u_6 = v'.snd.fst) ∧
        (h_7 = v'.snd.snd.fst) ∧
        (p_8 = v'.snd.snd.snd.fst) ∧
        (c_9 = v'.snd.snd.snd.snd.fst) ∧
        (l_10 = v'.snd.snd.snd.snd.snd) ∧
        (
         (
          ((0 : Int) ≤ v'.fst) ∧
          (v'.fst ≤ (↑xs.length : Int))) ∧
         (v'.snd = gS (List.take v'.fst.toNat xs))) ∧
        (((↑xs.length : Int) - v'.fst).toNat < ((↑xs.length : Int) - v_1.fst).toNat))) ∧
     br (e_11 != (0 : Int))
      ((k (AV.tup [AV.agg [AV.bool false, AV.int IntKind.i64 (0 : Int), AV.int IntKind.i64 (0 : Int), AV.int IntKind.i64 (0 : Int), AV.int IntKind.u64 (0 : Int)], AV.bool false]) [] []))
      (∀ (n29 : Int),
       (n29 = IntKind.i64.wrap (v_1.fst + (1 : Int))) →
       ((-9223372036854775808 : Int) ≤ n29 ∧ n29 ≤ (9223372036854775807 : Int)) →
       ∃ (v' : Int × GS),
       (xs = xs) ∧
       (n29 = v'.fst) ∧
       (false = false) ∧
       ((0 : Int) = (0 : Int)) ∧
       ((0 : Int) = (0 : Int)) ∧
       ((0 : Int) = (0 : Int)) ∧
       ((0 : Int) = (0 : Int)) ∧
       (u_6 = v'.snd.fst) ∧
       (h_7 = v'.snd.snd.fst) ∧
       (p_8 = v'.snd.snd.snd.fst) ∧
       (c_9 = v'.snd.snd.snd.snd.fst) ∧
       (l_10 = v'.snd.snd.snd.snd.snd) ∧
       (
        (
         ((0 : Int) ≤ v'.fst) ∧
         (v'.fst ≤ (↑xs.length : Int))) ∧
        (v'.snd = gS (List.take v'.fst.toNat xs))) ∧
       (((↑xs.length : Int) - v'.fst).toNat < ((↑xs.length : Int) - v_1.fst).toNat))) ∧
    (
     ((-9223372036854775808 : Int) ≤ v_1.snd.snd.fst) ∧
     (v_1.snd.snd.fst ≤ (9223372036854775807 : Int))) ∧
    (
     ((-9223372036854775808 : Int) ≤ v_1.snd.snd.snd.fst) ∧
     (v_1.snd.snd.snd.fst ≤ (9223372036854775807 : Int))) ∧
    (
     ((-9223372036854775808 : Int) ≤ v_1.snd.snd.snd.snd.fst) ∧
     (v_1.snd.snd.snd.snd.fst ≤ (9223372036854775807 : Int))) ∧
    (
     ((0 : Int) ≤ v_1.snd.snd.snd.snd.snd) ∧
     (v_1.snd.snd.snd.snd.snd ≤ (18446744073709551615 : Int))) ∧
    ∀ (u_32 : Bool),
    ∀ (h_33 : Int),
    ∀ (p_34 : Int),
    ∀ (c_35 : Int),
    ∀ (l_36 : Int),
    ∀ (e_37 : Int),
    (u_32 = nU v_1.snd.fst v_1.snd.snd.fst v_1.snd.snd.snd.fst v_1.snd.snd.snd.snd.fst v_1.snd.snd.snd.snd.snd (xs.getD v_1.fst.toNat false)) →
    (h_33 = nH v_1.snd.fst v_1.snd.snd.fst v_1.snd.snd.snd.fst v_1.snd.snd.snd.snd.fst v_1.snd.snd.snd.snd.snd (xs.getD v_1.fst.toNat false)) →
    (p_34 = nP v_1.snd.fst v_1.snd.snd.fst v_1.snd.snd.snd.fst v_1.snd.snd.snd.snd.fst v_1.snd.snd.snd.snd.snd (xs.getD v_1.fst.toNat false)) →
    (c_35 = nC v_1.snd.fst v_1.snd.snd.fst v_1.snd.snd.snd.fst v_1.snd.snd.snd.snd.fst v_1.snd.snd.snd.snd.snd (xs.getD v_1.fst.toNat false)) →
    (l_36 = nL v_1.snd.fst v_1.snd.snd.fst v_1.snd.snd.snd.fst v_1.snd.snd.snd.snd.fst v_1.snd.snd.snd.snd.snd (xs.getD v_1.fst.toNat false)) →
    (e_37 = gE v_1.snd.fst v_1.snd.snd.fst v_1.snd.snd.snd.fst v_1.snd.snd.snd.snd.fst v_1.snd.snd.snd.snd.snd) →
    ((0 : Int) ≤ h_33 ∧ h_33 ≤ (1048576 : Int)) →
    ((0 : Int) ≤ p_34 ∧ p_34 ≤ (1048576 : Int)) →
    ((0 : Int) ≤ c_35 ∧ c_35 ≤ (1073741824 : Int)) →
    ((0 : Int) ≤ l_36 ∧ l_36 ≤ (18446744073709551615 : Int)) →
    (e_37 = (0 : Int) ∨ e_37 = (8 : Int)) →
    (
     br (e_37 != (0 : Int))
      ((k (AV.tup [AV.agg [AV.bool false, AV.int IntKind.i64 (0 : Int), AV.int IntKind.i64 (0 : Int), AV.int IntKind.i64 (0 : Int), AV.int IntKind.u64 (0 : Int)], AV.bool false]) [] []))
      (∀ (n49 : Int),
       (n49 = IntKind.i64.wrap (v_1.fst + (1 : Int))) →
       ((-9223372036854775808 : Int) ≤ n49 ∧ n49 ≤ (9223372036854775807 : Int)) →
       ∃ (v' : Int × GS),
       (xs = xs) ∧
       (n49 = v'.fst) ∧
       (false = false) ∧
       ((0 : Int) = (0 : Int)) ∧
       ((0 : Int) = (0 : Int)) ∧
       ((0 : Int) = (0 : Int)) ∧
       ((0 : Int) = (0 : Int)) ∧
       (u_32 = v'.snd.fst) ∧
       (h_33 = v'.snd.snd.fst) ∧
       (p_34 = v'.snd.snd.snd.fst) ∧
       (c_35 = v'.snd.snd.snd.snd.fst) ∧
       (l_36 = v'.snd.snd.snd.snd.snd) ∧
       (
        (
         ((0 : Int) ≤ v'.fst) ∧
         (v'.fst ≤ (↑xs.length : Int))) ∧
        (v'.snd = gS (List.take v'.fst.toNat xs))) ∧
       (((↑xs.length : Int) - v'.fst).toNat < ((↑xs.length : Int) - v_1.fst).toNat))) ∧
    br (e_37 != (0 : Int))
     ((k (AV.tup [AV.agg [AV.bool false, AV.int IntKind.i64 (0 : Int), AV.int IntKind.i64 (0 : Int), AV.int IntKind.i64 (0 : Int), AV.int IntKind.u64 (0 : Int)], AV.bool false]) [] []))
     (∀ (n52 : Int),
      (n52 = IntKind.i64.wrap (v_1.fst + (1 : Int))) →
      ((-9223372036854775808 : Int) ≤ n52 ∧ n52 ≤ (9223372036854775807 : Int)) →
      ∃ (v' : Int × GS),
      (xs = xs) ∧
      (n52 = v'.fst) ∧
      (false = false) ∧
      ((0 : Int) = (0 : Int)) ∧
      ((0 : Int) = (0 : Int)) ∧
      ((0 : Int) = (0 : Int)) ∧
      ((0 : Int) = (0 : Int)) ∧
      (u_32 = v'.snd.fst) ∧
      (h_33 = v'.snd.snd.fst) ∧
      (p_34 = v'.snd.snd.snd.fst) ∧
      (c_35 = v'.snd.snd.snd.snd.fst) ∧
      (l_36 = v'.snd.snd.snd.snd.snd) ∧
      (
       (
        ((0 : Int) ≤ v'.fst) ∧
        (v'.fst ≤ (↑xs.length : Int))) ∧
       (v'.snd = gS (List.take v'.fst.toNat xs))) ∧
      (((↑xs.length : Int) - v'.fst).toNat < ((↑xs.length : Int) - v_1.fst).toNat)))
   ((k (AV.tup [AV.agg [AV.bool v_1.snd.fst, AV.int IntKind.i64 v_1.snd.snd.fst, AV.int IntKind.i64 v_1.snd.snd.snd.fst, AV.int IntKind.i64 v_1.snd.snd.snd.snd.fst, AV.int IntKind.u64 v_1.snd.snd.snd.snd.snd], AV.bool true]) [] [])) := by
  refine ⟨?_, ?_⟩
  · -- left
    refine ⟨((0 : Int), false, (0 : Int), (0 : Int), (0 : Int), (0 : Int)), ?_⟩
    refine ⟨by first | with_reducible rfl | rfl, ?_⟩ -- xs = xs
    refine ⟨by first | with_reducible rfl | rfl, ?_⟩ -- (0 : Int) = (0 : Int)
    refine ⟨by first | with_reducible rfl | rfl, ?_⟩ -- false = false
    refine ⟨by first | with_reducible rfl | rfl, ?_⟩ -- (0 : Int) = (0 : Int)
    refine ⟨by first | with_reducible rfl | rfl, ?_⟩ -- (0 : Int) = (0 : Int)
    refine ⟨by first | with_reducible rfl | rfl, ?_⟩ -- (0 : Int) = (0 : Int)
    refine ⟨by first | with_reducible rfl | rfl, ?_⟩ -- (0 : Int) = (0 : Int)
    refine ⟨by first | with_reducible rfl | rfl, ?_⟩ -- false = false
    refine ⟨by first | with_reducible rfl | rfl, ?_⟩ -- (0 : Int) = (0 : Int)
    refine ⟨by first | with_reducible rfl | rfl, ?_⟩ -- (0 : Int) = (0 : Int)
    refine ⟨by first | with_reducible rfl | rfl, ?_⟩ -- (0 : Int) = (0 : Int)
    refine ⟨by first | with_reducible rfl | rfl, ?_⟩ -- (0 : Int) = (0 : Int)
    refine ⟨by first | omega | (dsimp only; omega), ?_⟩ -- (0 : Int) ≤ (0 : Int) ∧ (0 : Int) ≤ (↑xs.length : Int)
    exact by rfl -- (false, (0 : Int), (0 : Int), (0 : Int), (0 : Int)) = gS (List.take (Int.toNat (0 : Int)) xs)
  intro v_1
  intro h1 -- ((0 : Int) ≤ v_1.fst ∧ v_1.fst ≤ (↑xs.length : Int)) ∧ v_1.snd = gS (List.take v_1.fst.toNat xs)
  have bd : ((0 ≤ v_1.snd.snd.fst ∧ v_1.snd.snd.fst ≤ 1048576) ∧ (0 ≤ v_1.snd.snd.snd.fst ∧ v_1.snd.snd.snd.fst ≤ 1048576) ∧ (0 ≤ v_1.snd.snd.snd.snd.fst ∧ v_1.snd.snd.snd.snd.fst ≤ 1073741824) ∧ (0 ≤ v_1.snd.snd.snd.snd.snd ∧ v_1.snd.snd.snd.snd.snd ≤ 18446744073709551615)) ∧ gE v_1.snd.fst v_1.snd.snd.fst v_1.snd.snd.snd.fst v_1.snd.snd.snd.snd.fst v_1.snd.snd.snd.snd.snd = 0 := by exact ⟨by rw [h1.2]; exact gS_bd _, by rw [h1.2]; exact (gS_ok _).1⟩
  intro n3
  intro q3 -- n3 = (↑xs.length : Int)
  intro ⟨l3, u3⟩ -- (-9223372036854775808 : Int) ≤ n3 ∧ n3 ≤ (9223372036854775807 : Int)
  refine brd (fun c2 => ?_) (fun c2 => ?_) -- decide (v_1.fst < n3)
  · -- yes
    refine ⟨by first | omega | (dsimp only; omega), ?_⟩ -- (0 : Int) ≤ v_1.fst
    refine ⟨by first | omega | (dsimp only; omega), ?_⟩ -- v_1.fst < (↑xs.length : Int)
    refine ⟨?_, ?_⟩
    · -- left
      refine ⟨by first | omega | (dsimp only; omega), ?_⟩ -- (-9223372036854775808 : Int) ≤ v_1.snd.snd.fst ∧ v_1.snd.snd.fst ≤ (9223372036854775807 : Int)
      refine ⟨by first | omega | (dsimp only; omega), ?_⟩ -- (-9223372036854775808 : Int) ≤ v_1.snd.snd.snd.fst ∧ v_1.snd.snd.snd.fst ≤ (9223372036854775807 : Int)
      refine ⟨by first | omega | (dsimp only; omega), ?_⟩ -- (-9223372036854775808 : Int) ≤ v_1.snd.snd.snd.snd.fst ∧ v_1.snd.snd.snd.snd.fst ≤ (9223372036854775807 : Int)
      refine ⟨by first | omega | (dsimp only; omega), ?_⟩ -- (0 : Int) ≤ v_1.snd.snd.snd.snd.snd ∧ v_1.snd.snd.snd.snd.snd ≤ (18446744073709551615 : Int)
      intro u_6
      intro h_7
      intro p_8
      intro c_9
      intro l_10
      intro e_11
      intro h3 -- u_6 = nU v_1.snd.fst v_1.snd.snd.fst v_1.snd.snd.snd.fst v_1.snd.snd.snd.snd.fst v_1.snd.snd.snd.snd.snd (xs.getD v_1.fst.toNat false)
      simp at h3 -- u_6 = nU v_1.snd.fst v_1.snd.snd.fst v_1.snd.snd.snd.fst v_1.snd.snd.snd.snd.fst v_1.snd.snd.snd.snd.snd (xs[v_1.fst.toNat]?.getD false)
      intro h4 -- h_7 = nH v_1.snd.fst v_1.snd.snd.fst v_1.snd.snd.snd.fst v_1.snd.snd.snd.snd.fst v_1.snd.snd.snd.snd.snd (xs.getD v_1.fst.toNat false)
      intro h5 -- p_8 = nP v_1.snd.fst v_1.snd.snd.fst v_1.snd.snd.snd.fst v_1.snd.snd.snd.snd.fst v_1.snd.snd.snd.snd.snd (xs.getD v_1.fst.toNat false)
      intro h6 -- c_9 = nC v_1.snd.fst v_1.snd.snd.fst v_1.snd.snd.snd.fst v_1.snd.snd.snd.snd.fst v_1.snd.snd.snd.snd.snd (xs.getD v_1.fst.toNat false)
      intro h7 -- l_10 = nL v_1.snd.fst v_1.snd.snd.fst v_1.snd.snd.snd.fst v_1.snd.snd.snd.snd.fst v_1.snd.snd.snd.snd.snd (xs.getD v_1.fst.toNat false)
      intro h8 -- e_11 = gE v_1.snd.fst v_1.snd.snd.fst v_1.snd.snd.snd.fst v_1.snd.snd.snd.snd.fst v_1.snd.snd.snd.snd.snd
      intro ⟨a9, b9⟩ -- (0 : Int) ≤ h_7 ∧ h_7 ≤ (1048576 : Int)
      intro ⟨a10, b10⟩ -- (0 : Int) ≤ p_8 ∧ p_8 ≤ (1048576 : Int)
      intro ⟨a11, b11⟩ -- (0 : Int) ≤ c_9 ∧ c_9 ≤ (1073741824 : Int)
      intro ⟨a12, b12⟩ -- (0 : Int) ≤ l_10 ∧ l_10 ≤ (18446744073709551615 : Int)
      intro h13 -- e_11 = (0 : Int) ∨ e_11 = (8 : Int)
      refine ⟨?_, ?_⟩
      · -- left
        refine br_intro (fun c14 => ?_) (fun c14 => ?_) -- e_11 != (0 : Int)
        · -- yes
          simp at c14 -- ¬e_11 = (0 : Int)
          exfalso; omega
        · -- no
          simp at c14 -- e_11 = (0 : Int)
          intro n23
          intro q23 -- n23 = IntKind.i64.wrap (v_1.fst + (1 : Int))
          rw [IntKind.wrap_i64] at q23
          intro ⟨l23, u23⟩ -- (-9223372036854775808 : Int) ≤ n23 ∧ n23 ≤ (9223372036854775807 : Int)
          refine ⟨(n23, u_6, h_7, p_8, c_9, l_10), ?_⟩
          refine ⟨by first | with_reducible rfl | rfl, ?_⟩ -- xs = xs
          refine ⟨by first | with_reducible rfl | rfl, ?_⟩ -- n23 = n23
          refine ⟨by first | with_reducible rfl | rfl, ?_⟩ -- false = false
          refine ⟨by first | with_reducible rfl | rfl, ?_⟩ -- (0 : Int) = (0 : Int)
          refine ⟨by first | with_reducible rfl | rfl, ?_⟩ -- (0 : Int) = (0 : Int)
          refine ⟨by first | with_reducible rfl | rfl, ?_⟩ -- (0 : Int) = (0 : Int)
          refine ⟨by first | with_reducible rfl | rfl, ?_⟩ -- (0 : Int) = (0 : Int)
          refine ⟨by first | with_reducible rfl | rfl, ?_⟩ -- u_6 = u_6
          refine ⟨by first | with_reducible rfl | rfl, ?_⟩ -- h_7 = h_7
          refine ⟨by first | with_reducible rfl | rfl, ?_⟩ -- p_8 = p_8
          refine ⟨by first | with_reducible rfl | rfl, ?_⟩ -- c_9 = c_9
          refine ⟨by first | with_reducible rfl | rfl, ?_⟩ -- l_10 = l_10
          refine ⟨?_, ?_⟩
          · -- left
            refine ⟨by first | omega | (dsimp only; omega), ?_⟩ -- (0 : Int) ≤ n23 ∧ n23 ≤ (↑xs.length : Int)
            exact by exact beh_step h1 (by omega) (by omega) (by assumption) (by assumption) (by assumption) (by assumption) (by assumption) -- (u_6, h_7, p_8, c_9, l_10) = gS (List.take n23.toNat xs)
          exact by show ((↑xs.length : Int) - n23).toNat < ((↑xs.length : Int) - v_1.fst).toNat; omega -- ((↑xs.length : Int) - n23).toNat < ((↑xs.length : Int) - v_1.fst).toNat
      refine ⟨?_, ?_⟩
      · -- left
        refine br_intro (fun c15 => ?_) (fun c15 => ?_) -- e_11 != (0 : Int)
        · -- yes
          simp at c15 -- ¬e_11 = (0 : Int)
          exfalso; omega
        · -- no
          simp at c15 -- e_11 = (0 : Int)
          intro n26
          intro q26 -- n26 = IntKind.i64.wrap (v_1.fst + (1 : Int))
          rw [IntKind.wrap_i64] at q26
          intro ⟨l26, u26⟩ -- (-9223372036854775808 : Int) ≤ n26 ∧ n26 ≤ (9223372036854775807 : Int)
          refine ⟨(n26, u_6, h_7, p_8, c_9, l_10), ?_⟩
          refine ⟨by first | with_reducible rfl | rfl, ?_⟩ -- xs = xs
          refine ⟨by first | with_reducible rfl | rfl, ?_⟩ -- n26 = n26
          refine ⟨by first | with_reducible rfl | rfl, ?_⟩ -- false = false
          refine ⟨by first | with_reducible rfl | rfl, ?_⟩ -- (0 : Int) = (0 : Int)
          refine ⟨by first | with_reducible rfl | rfl, ?_⟩ -- (0 : Int) = (0 : Int)
          refine ⟨by first | with_reducible rfl | rfl, ?_⟩ -- (0 : Int) = (0 : Int)
          refine ⟨by first | with_reducible rfl | rfl, ?_⟩ -- (0 : Int) = (0 : Int)
          refine ⟨by first | with_reducible rfl | rfl, ?_⟩ -- u_6 = u_6
          refine ⟨by first | with_reducible rfl | rfl, ?_⟩ -- h_7 = h_7
          refine ⟨by first | with_reducible rfl | rfl, ?_⟩ -- p_8 = p_8
          refine ⟨by first | with_reducible rfl | rfl, ?_⟩ -- c_9 = c_9
          refine ⟨by first | with_reducible rfl | rfl, ?_⟩ -- l_10 = l_10
          refine ⟨?_, ?_⟩
          · -- left
            refine ⟨by first | omega | (dsimp only; omega), ?_⟩ -- (0 : Int) ≤ n26 ∧ n26 ≤ (↑xs.length : Int)
            exact by exact beh_step h1 (by omega) (by omega) (by assumption) (by assumption) (by assumption) (by assumption) (by assumption) -- (u_6, h_7, p_8, c_9, l_10) = gS (List.take n26.toNat xs)
          exact by show ((↑xs.length : Int) - n26).toNat < ((↑xs.length : Int) - v_1.fst).toNat; omega -- ((↑xs.length : Int) - n26).toNat < ((↑xs.length : Int) - v_1.fst).toNat
      refine br_intro (fun c16 => ?_) (fun c16 => ?_) -- e_11 != (0 : Int)
      · -- yes
        simp at c16 -- ¬e_11 = (0 : Int)
        exfalso; omega
      · -- no
        simp at c16 -- e_11 = (0 : Int)
        intro n29
        intro q29 -- n29 = IntKind.i64.wrap (v_1.fst + (1 : Int))
        rw [IntKind.wrap_i64] at q29
        intro ⟨l29, u29⟩ -- (-9223372036854775808 : Int) ≤ n29 ∧ n29 ≤ (9223372036854775807 : Int)
        refine ⟨(n29, u_6, h_7, p_8, c_9, l_10), ?_⟩
        refine ⟨by first | with_reducible rfl | rfl, ?_⟩ -- xs = xs
        refine ⟨by first | with_reducible rfl | rfl, ?_⟩ -- n29 = n29
        refine ⟨by first | with_reducible rfl | rfl, ?_⟩ -- false = false
        refine ⟨by first | with_reducible rfl | rfl, ?_⟩ -- (0 : Int) = (0 : Int)
        refine ⟨by first | with_reducible rfl | rfl, ?_⟩ -- (0 : Int) = (0 : Int)
        refine ⟨by first | with_reducible rfl | rfl, ?_⟩ -- (0 : Int) = (0 : Int)
        refine ⟨by first | with_reducible rfl | rfl, ?_⟩ -- (0 : Int) = (0 : Int)
        refine ⟨by first | with_reducible rfl | rfl, ?_⟩ -- u_6 = u_6
        refine ⟨by first | with_reducible rfl | rfl, ?_⟩ -- h_7 = h_7
        refine ⟨by first | with_reducible rfl | rfl, ?_⟩ -- p_8 = p_8
        refine ⟨by first | with_reducible rfl | rfl, ?_⟩ -- c_9 = c_9
        refine ⟨by first | with_reducible rfl | rfl, ?_⟩ -- l_10 = l_10
        refine ⟨?_, ?_⟩
        · -- left
          refine ⟨by first | omega | (dsimp only; omega), ?_⟩ -- (0 : Int) ≤ n29 ∧ n29 ≤ (↑xs.length : Int)
          exact by exact beh_step h1 (by omega) (by omega) (by assumption) (by assumption) (by assumption) (by assumption) (by assumption) -- (u_6, h_7, p_8, c_9, l_10) = gS (List.take n29.toNat xs)
        exact by show ((↑xs.length : Int) - n29).toNat < ((↑xs.length : Int) - v_1.fst).toNat; omega -- ((↑xs.length : Int) - n29).toNat < ((↑xs.length : Int) - v_1.fst).toNat
    refine ⟨by first | omega | (dsimp only; omega), ?_⟩ -- (-9223372036854775808 : Int) ≤ v_1.snd.snd.fst ∧ v_1.snd.snd.fst ≤ (9223372036854775807 : Int)
    refine ⟨by first | omega | (dsimp only; omega), ?_⟩ -- (-9223372036854775808 : Int) ≤ v_1.snd.snd.snd.fst ∧ v_1.snd.snd.snd.fst ≤ (9223372036854775807 : Int)
    refine ⟨by first | omega | (dsimp only; omega), ?_⟩ -- (-9223372036854775808 : Int) ≤ v_1.snd.snd.snd.snd.fst ∧ v_1.snd.snd.snd.snd.fst ≤ (9223372036854775807 : Int)
    refine ⟨by first | omega | (dsimp only; omega), ?_⟩ -- (0 : Int) ≤ v_1.snd.snd.snd.snd.snd ∧ v_1.snd.snd.snd.snd.snd ≤ (18446744073709551615 : Int)
    intro u_32
    intro h_33
    intro p_34
    intro c_35
    intro l_36
    intro e_37
    intro h17 -- u_32 = nU v_1.snd.fst v_1.snd.snd.fst v_1.snd.snd.snd.fst v_1.snd.snd.snd.snd.fst v_1.snd.snd.snd.snd.snd (xs.getD v_1.fst.toNat false)
    simp at h17 -- u_32 = nU v_1.snd.fst v_1.snd.snd.fst v_1.snd.snd.snd.fst v_1.snd.snd.snd.snd.fst v_1.snd.snd.snd.snd.snd (xs[v_1.fst.toNat]?.getD false)
    intro h18 -- h_33 = nH v_1.snd.fst v_1.snd.snd.fst v_1.snd.snd.snd.fst v_1.snd.snd.snd.snd.fst v_1.snd.snd.snd.snd.snd (xs.getD v_1.fst.toNat false)
    intro h19 -- p_34 = nP v_1.snd.fst v_1.snd.snd.fst v_1.snd.snd.snd.fst v_1.snd.snd.snd.snd.fst v_1.snd.snd.snd.snd.snd (xs.getD v_1.fst.toNat false)
    intro h20 -- c_35 = nC v_1.snd.fst v_1.snd.snd.fst v_1.snd.snd.snd.fst v_1.snd.snd.snd.snd.fst v_1.snd.snd.snd.snd.snd (xs.getD v_1.fst.toNat false)
    intro h21 -- l_36 = nL v_1.snd.fst v_1.snd.snd.fst v_1.snd.snd.snd.fst v_1.snd.snd.snd.snd.fst v_1.snd.snd.snd.snd.snd (xs.getD v_1.fst.toNat false)
    intro h22 -- e_37 = gE v_1.snd.fst v_1.snd.snd.fst v_1.snd.snd.snd.fst v_1.snd.snd.snd.snd.fst v_1.snd.snd.snd.snd.snd
    intro ⟨a23, b23⟩ -- (0 : Int) ≤ h_33 ∧ h_33 ≤ (1048576 : Int)
    intro ⟨a24, b24⟩ -- (0 : Int) ≤ p_34 ∧ p_34 ≤ (1048576 : Int)
    intro ⟨a25, b25⟩ -- (0 : Int) ≤ c_35 ∧ c_35 ≤ (1073741824 : Int)
    intro ⟨a26, b26⟩ -- (0 : Int) ≤ l_36 ∧ l_36 ≤ (18446744073709551615 : Int)
    intro h27 -- e_37 = (0 : Int) ∨ e_37 = (8 : Int)
    refine ⟨?_, ?_⟩
    · -- left
      refine br_intro (fun c28 => ?_) (fun c28 => ?_) -- e_37 != (0 : Int)
      · -- yes
        simp at c28 -- ¬e_37 = (0 : Int)
        exfalso; omega
      · -- no
        simp at c28 -- e_37 = (0 : Int)
        intro n49
        intro q49 -- n49 = IntKind.i64.wrap (v_1.fst + (1 : Int))
        rw [IntKind.wrap_i64] at q49
        intro ⟨l49, u49⟩ -- (-9223372036854775808 : Int) ≤ n49 ∧ n49 ≤ (9223372036854775807 : Int)
        refine ⟨(n49, u_32, h_33, p_34, c_35, l_36), ?_⟩
        refine ⟨by first | with_reducible rfl | rfl, ?_⟩ -- xs = xs
        refine ⟨by first | with_reducible rfl | rfl, ?_⟩ -- n49 = n49
        refine ⟨by first | with_reducible rfl | rfl, ?_⟩ -- false = false
        refine ⟨by first | with_reducible rfl | rfl, ?_⟩ -- (0 : Int) = (0 : Int)
        refine ⟨by first | with_reducible rfl | rfl, ?_⟩ -- (0 : Int) = (0 : Int)
        refine ⟨by first | with_reducible rfl | rfl, ?_⟩ -- (0 : Int) = (0 : Int)
        refine ⟨by first | with_reducible rfl | rfl, ?_⟩ -- (0 : Int) = (0 : Int)
        refine ⟨by first | with_reducible rfl | rfl, ?_⟩ -- u_32 = u_32
        refine ⟨by first | with_reducible rfl | rfl, ?_⟩ -- h_33 = h_33
        refine ⟨by first | with_reducible rfl | rfl, ?_⟩ -- p_34 = p_34
        refine ⟨by first | with_reducible rfl | rfl, ?_⟩ -- c_35 = c_35
        refine ⟨by first | with_reducible rfl | rfl, ?_⟩ -- l_36 = l_36
        refine ⟨?_, ?_⟩
        · -- left
          refine ⟨by first | omega | (dsimp only; omega), ?_⟩ -- (0 : Int) ≤ n49 ∧ n49 ≤ (↑xs.length : Int)
          exact by exact beh_step h1 (by omega) (by omega) (by assumption) (by assumption) (by assumption) (by assumption) (by assumption) -- (u_32, h_33, p_34, c_35, l_36) = gS (List.take n49.toNat xs)
        exact by show ((↑xs.length : Int) - n49).toNat < ((↑xs.length : Int) - v_1.fst).toNat; omega -- ((↑xs.length : Int) - n49).toNat < ((↑xs.length : Int) - v_1.fst).toNat
    refine br_intro (fun c29 => ?_) (fun c29 => ?_) -- e_37 != (0 : Int)
    · -- yes
      simp at c29 -- ¬e_37 = (0 : Int)
      exfalso; omega
    · -- no
      simp at c29 -- e_37 = (0 : Int)
      intro n52
      intro q52 -- n52 = IntKind.i64.wrap (v_1.fst + (1 : Int))
      rw [IntKind.wrap_i64] at q52
      intro ⟨l52, u52⟩ -- (-9223372036854775808 : Int) ≤ n52 ∧ n52 ≤ (9223372036854775807 : Int)
      refine ⟨(n52, u_32, h_33, p_34, c_35, l_36), ?_⟩
      refine ⟨by first | with_reducible rfl | rfl, ?_⟩ -- xs = xs
      refine ⟨by first | with_reducible rfl | rfl, ?_⟩ -- n52 = n52
      refine ⟨by first | with_reducible rfl | rfl, ?_⟩ -- false = false
      refine ⟨by first | with_reducible rfl | rfl, ?_⟩ -- (0 : Int) = (0 : Int)
      refine ⟨by first | with_reducible rfl | rfl, ?_⟩ -- (0 : Int) = (0 : Int)
      refine ⟨by first | with_reducible rfl | rfl, ?_⟩ -- (0 : Int) = (0 : Int)
      refine ⟨by first | with_reducible rfl | rfl, ?_⟩ -- (0 : Int) = (0 : Int)
      refine ⟨by first | with_reducible rfl | rfl, ?_⟩ -- u_32 = u_32
      refine ⟨by first | with_reducible rfl | rfl, ?_⟩ -- h_33 = h_33
      refine ⟨by first | with_reducible rfl | rfl, ?_⟩ -- p_34 = p_34
      refine ⟨by first | with_reducible rfl | rfl, ?_⟩ -- c_35 = c_35
      refine ⟨by first | with_reducible rfl | rfl, ?_⟩ -- l_36 = l_36
      refine ⟨?_, ?_⟩
      · -- left
        refine ⟨by first | omega | (dsimp only; omega), ?_⟩ -- (0 : Int) ≤ n52 ∧ n52 ≤ (↑xs.length : Int)
        exact by exact beh_step h1 (by omega) (by omega) (by assumption) (by assumption) (by assumption) (by assumption) (by assumption) -- (u_32, h_33, p_34, c_35, l_36) = gS (List.take n52.toNat xs)
      exact by show ((↑xs.length : Int) - n52).toNat < ((↑xs.length : Int) - v_1.fst).toNat; omega -- ((↑xs.length : Int) - n52).toNat < ((↑xs.length : Int) - v_1.fst).toNat
  · -- no
    exact by exact hk _ _ _ _ _ (by have e := h1.2; rw [show v_1.fst.toNat = xs.length by omega, List.take_length] at e; exact e) (by omega) (by omega) (by omega) (by omega) -- k (AV.tup [AV.agg [AV.bool v_1.snd.fst, AV.int IntKind.i64 v_1.snd.snd.fst, AV.int IntKind.i64 v_1.snd.snd.snd.fst, AV.int IntKind.i64 v_1.snd.snd.snd.snd.fst, AV.int IntKind.u64 v_1.snd.snd.snd.snd.snd], AV.bool true]) [] []

theorem behind_ok : Holds Try.prog 10 behindS := by
  refine fn_sound (env := mkEnv T4) (tab_ok T4_ok) Try.func10 Try.call10 fun args k h => ?_
  match args, h with
  | [.sl 4 xs], h => exact ⟨by kernel_rfl, behindLoops xs, fun _ _ => none, .cast (by kernel_rfl) (behind_vc xs k h)⟩
theorem behind_lit : Holds Try.prog 10 behindL := by
  intro w im vals args k o a next Q him hlen hrep hrun hnext
  refine behind_ok w im vals args k o a next Q him hlen hrep ?_ hnext
  unfold behindL at hrun
  dsimp only at hrun
  split at hrun
  · rename_i xs
    have h := gF_ok _ _ _ _ _ _ _ hrun
    intro u h' p c l e _ _ _ _
    have e1 : u = (gS xs).1 := by rw [← e]
    have e2 : h' = (gS xs).2.1 := by rw [← e]
    have e3 : p = (gS xs).2.2.1 := by rw [← e]
    have e4 : c = (gS xs).2.2.2.1 := by rw [← e]
    have e5 : l = (gS xs).2.2.2.2 := by rw [← e]
    rw [e1, e2, e3, e4, e5]
    exact h
  · exact hrun.elim
def lown2 : FuncId → Option Eng.Spec := fun f => match f with
  | 10 => some behindL
  | _ => none
theorem lown2_ok : ∀ f s, lown2 f = some s → Holds Try.prog f s := fun f s h => by
  unfold lown2 at h
  split at h
  · cases h; exact behind_lit
  · cases h
noncomputable def lenv2 : Env := lenvOf lown2
theorem lenv2_ok : ∀ f s, lenv2.spec f = some s → Holds Try.prog f s := litEnv_ok lown2_ok linl_ok 12
theorem alive_ok : Holds Try.prog 9 trueS := by
  refine fn_sound (env := lenv2) lenv2_ok Try.func9 Try.call9 fun args k h => ?_
  match args, h with
  | [], h => exact ⟨by kernel_rfl, fun _ _ => none, fun _ _ => none, .cast (by kernel_rfl) h⟩
theorem gapNames_ok : Holds Try.prog 7 trueS := by
  refine fn_sound (env := lenv2) lenv2_ok Try.func7 Try.call7 fun args k h => ?_
  match args, h with
  | [], h => exact ⟨by kernel_rfl, fun _ _ => none, fun _ _ => none, .cast (by kernel_rfl) h⟩
theorem T5_ok : TabOk Try.prog T5 := ⟨alive_ok, T4_ok⟩
theorem T6_ok : TabOk Try.prog T6 := ⟨behind_ok, T5_ok⟩
def lawTicks : Eng.Spec := { ro := true, own := [], run := fun args _ k => match args with
  | [.agg [.bool gu, .int .i64 gh, .int .i64 gp, .int .i64 gc, .int .u64 gl], .bool up, .int .i64 w, .int .i64 long] => inK .i64 gh ∧ inK .i64 gp ∧ inK .i64 gc ∧ inK .u64 gl ∧ inK .i64 w ∧ inK .i64 long ∧ k (.bool true) [] []
  | _ => False }
def lawStays : Eng.Spec := { ro := true, own := [], run := fun args _ k => match args with
  | [.agg [.bool gu, .int .i64 gh, .int .i64 gp, .int .i64 gc, .int .u64 gl], .bool up, .bool again] => inK .i64 gh ∧ inK .i64 gp ∧ inK .i64 gc ∧ inK .u64 gl ∧ k (.bool true) [] []
  | _ => False }
end Go.Proofs.Ytaajleciicgoiaa

