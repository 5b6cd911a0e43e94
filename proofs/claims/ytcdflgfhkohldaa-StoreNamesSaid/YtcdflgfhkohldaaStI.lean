import Derived.Test.YtcdflgfhkohldaaStH
namespace Go.Proofs.Ytcdflgfhkohldaa
open Go Go.Eng Go.Rw Go.Lk Go.Proofs
open Go.Bk hiding take_step drop_step set_mid
open Go.St hiding take_step
set_option linter.unusedVariables false
set_option maxHeartbeats 2000000 in
theorem join_vc (l : List (List UInt8)) (hl : (2 : Nat) ≤ l.length ∧ l.length ≤ (1000 : Nat) ∧ l.flatten.length ≤ (100000 : Nat)) (k : AV → List (Option Blk) → List Blk → Prop) (hk : ∀ (ys : List UInt8) (n : Nat), ys = l.flatten → ys.length = n → k (AV.row (0 : Nat) (0 : Nat) (0 : Nat) n) [] [Blk.row (0 : Nat) ys]) :
 ∀ (n1 : Int),
 (n1 = (↑l.length : Int)) →
 ((-9223372036854775808 : Int) ≤ n1 ∧ n1 ≤ (9223372036854775807 : Int)) →
 br (n1 == (0 : Int))
 ((k (AV.row (0 : Nat) (0 : Nat) (0 : Nat) (0 : Nat)) [] [Blk.row (0 : Nat) []]))
 (∀ (n4 : Int),
  (n4 = (↑l.length : Int)) →
  ((-9223372036854775808 : Int) ≤ n4 ∧ n4 ≤ (9223372036854775807 : Int)) →
  br (n4 == (1 : Int))
  (((0 : Int) ≤ (0 : Int)) ∧
   ((0 : Int) < (↑l.length : Int)) ∧
   ((l.getD (Int.toNat (0 : Int)) (dflt (6 : Nat))).length * (1 : Nat) ≤ (140737488355328 : Nat)) ∧
   ∀ (z7 : List UInt8),
   (z7 = l.getD (Int.toNat (0 : Int)) (dflt (6 : Nat))) →
   (k (AV.row (0 : Nat) (0 : Nat) (0 : Nat) (l.getD (Int.toNat (0 : Int)) (dflt (6 : Nat))).length) [] [Blk.row (0 : Nat) z7]))
  (∀ (n9 : Int),
   (n9 = (0 : Int)) →
   ((-9223372036854775808 : Int) ≤ n9 ∧ n9 ≤ (9223372036854775807 : Int)) →
   br (decide (n9 > (0 : Int)))
   (∀ (n12 : Int),
    (n12 = (0 : Int)) →
    ((-9223372036854775808 : Int) ≤ n12 ∧ n12 ≤ (9223372036854775807 : Int)) →
    ∀ (n15 : Int),
    (n15 = (↑l.length : Int)) →
    ((-9223372036854775808 : Int) ≤ n15 ∧ n15 ≤ (9223372036854775807 : Int)) →
    ∀ (n18 : Int),
    (n18 = IntKind.i64.wrap (n15 - (1 : Int))) →
    ((-9223372036854775808 : Int) ≤ n18 ∧ n18 ≤ (9223372036854775807 : Int)) →
    (n18 ≠ (0 : Int)) ∧
    ∀ (n21 : Int),
    (n21 = IntKind.i64.wrap (Int.tdiv (9223372036854775807 : Int) n18)) →
    ((-9223372036854775808 : Int) ≤ n21 ∧ n21 ≤ (9223372036854775807 : Int)) →
    br (decide (n12 ≥ n21))
    ((False))
    (∀ (n24 : Int),
     (n24 = (0 : Int)) →
     ((-9223372036854775808 : Int) ≤ n24 ∧ n24 ≤ (9223372036854775807 : Int)) →
     ∀ (n27 : Int),
     (n27 = (↑l.length : Int)) →
     ((-9223372036854775808 : Int) ≤ n27 ∧ n27 ≤ (9223372036854775807 : Int)) →
     ∀ (n30 : Int),
     (n30 = IntKind.i64.wrap (n27 - (1 : Int))) →
     ((-9223372036854775808 : Int) ≤ n30 ∧ n30 ≤ (9223372036854775807 : Int)) →
     ∀ (n33 : Int),
     (n33 = IntKind.i64.wrap (n24 * n30)) →
     ((-9223372036854775808 : Int) ≤ n33 ∧ n33 ≤ (9223372036854775807 : Int)) →
     ∀ (n36 : Int),
     (n36 = IntKind.i64.wrap ((0 : Int) + n33)) →
     ((-9223372036854775808 : Int) ≤ n36 ∧ n36 ≤ (9223372036854775807 : Int)) →
     ∀ (n39 : Int),
     (n39 = (↑l.length : Int)) →
     ((-9223372036854775808 : Int) ≤ n39 ∧ n39 ≤ (9223372036854775807 : Int)) →
     (
     ∃ (v : Nat × Int),
     (l = l) ∧
     (n36 = v.snd) ∧
     (l = l) ∧
     (n39 = (↑l.length : Int)) ∧
     ((0 : Int) = (↑v.fst : Int)) ∧
     (v.fst ≤ l.length) ∧
     (
      ((0 : Int) ≤ v.snd) ∧
      (v.snd ≤ (100000 : Int))) ∧
     (v.snd = (↑(catL l v.fst).length : Int))) ∧
     ∀ (v_42 : Nat × Int),
     (v_42.fst ≤ l.length ∧ ((0 : Int) ≤ v_42.snd ∧ v_42.snd ≤ (100000 : Int)) ∧ v_42.snd = (↑(catL l v_42.fst).length : Int)) →
     br (decide ((↑v_42.fst : Int) < (↑l.length : Int)))
     (((0 : Int) ≤ (↑v_42.fst : Int)) ∧
      ((↑v_42.fst : Int) < (↑l.length : Int)) ∧
      ∀ (n44 : Int),
      (n44 = (↑(l.getD (↑v_42.fst : Int).toNat (dflt (6 : Nat))).length : Int)) →
      ((-9223372036854775808 : Int) ≤ n44 ∧ n44 ≤ (9223372036854775807 : Int)) →
      ∀ (n47 : Int),
      (n47 = IntKind.i64.wrap ((9223372036854775807 : Int) - v_42.snd)) →
      ((-9223372036854775808 : Int) ≤ n47 ∧ n47 ≤ (9223372036854775807 : Int)) →
      br (decide (n44 > n47))
      ((False))
      (∀ (n50 : Int),
       (n50 = (↑(l.getD (↑v_42.fst : Int).toNat (dflt (6 : Nat))).length : Int)) →
       ((-9223372036854775808 : Int) ≤ n50 ∧ n50 ≤ (9223372036854775807 : Int)) →
       ∀ (n53 : Int),
       (n53 = IntKind.i64.wrap (v_42.snd + n50)) →
       ((-9223372036854775808 : Int) ≤ n53 ∧ n53 ≤ (9223372036854775807 : Int)) →
       ∀ (n56 : Int),
       (n56 = IntKind.i64.wrap ((↑v_42.fst : Int) + (1 : Int))) →
       ((-9223372036854775808 : Int) ≤ n56 ∧ n56 ≤ (9223372036854775807 : Int)) →
       ∃ (v' : Nat × Int),
       (l = l) ∧
       (n53 = v'.snd) ∧
       (l = l) ∧
       ((↑l.length : Int) = (↑l.length : Int)) ∧
       (n56 = (↑v'.fst : Int)) ∧
       (
       (v'.fst ≤ l.length) ∧
       (
        ((0 : Int) ≤ v'.snd) ∧
        (v'.snd ≤ (100000 : Int))) ∧
       (v'.snd = (↑(catL l v'.fst).length : Int))) ∧
       (l.length - v'.fst < l.length - v_42.fst)))
     ((
      ((0 : Int) ≤ v_42.snd) ∧
      (v_42.snd ≤ (1000000 : Int))) ∧
      ∀ (xs_59 : List UInt8),
      ∀ (q_60 : Nat),
      ((↑q_60 : Int) = v_42.snd) →
      (xs_59.length = q_60) →
      ((0 : Int) ≤ v_42.snd) ∧
      (v_42.snd ≤ v_42.snd) ∧
      (v_42.snd ≤ (↑q_60 : Int)) ∧
      ((0 : Int) ≤ (0 : Int)) ∧
      ((0 : Int) < (↑l.length : Int)) ∧
      ∀ (z63 : List UInt8),
      (z63 = List.take (0 : Nat) xs_59 ++ List.take ((l.getD (Int.toNat (0 : Int)) (dflt (6 : Nat))).length.min v_42.snd.toNat) (l.getD (Int.toNat (0 : Int)) (dflt (6 : Nat))) ++ List.drop ((0 : Nat) + (l.getD (Int.toNat (0 : Int)) (dflt (6 : Nat))).length.min v_42.snd.toNat) xs_59) →
      ((0 : Int) ≤ (1 : Int)) ∧
      ((1 : Int) ≤ (↑l.length : Int)) ∧
      ∀ (n65 : Int),
      (n65 = (↑(List.drop (Int.toNat (1 : Int)) l).length : Int)) →
      ((-9223372036854775808 : Int) ≤ n65 ∧ n65 ≤ (9223372036854775807 : Int)) →
      (
      ∃ (v : Nat × Int × List UInt8),
      ((0 : Nat) = (0 : Nat)) ∧
      (v_42.snd.toNat = l.flatten.length) ∧
      ((↑((l.getD (Int.toNat (0 : Int)) (dflt (6 : Nat))).length.min v_42.snd.toNat) : Int) = v.snd.fst) ∧
      (List.drop (Int.toNat (1 : Int)) l = List.drop (1 : Nat) l) ∧
      (n65 = (↑(List.drop (1 : Nat) l).length : Int)) ∧
      ((0 : Int) = (↑v.fst : Int)) ∧
      (z63 = v.snd.snd) ∧
      (v.fst ≤ (List.drop (1 : Nat) l).length) ∧
      (
       ((0 : Int) ≤ v.snd.fst) ∧
       (v.snd.fst ≤ (100000 : Int))) ∧
      (v.snd.fst = (↑(catL l (v.fst + (1 : Nat))).length : Int)) ∧
      (v.snd.snd.length = l.flatten.length) ∧
      (JO l (v.fst + (1 : Nat)) v.snd.snd)) ∧
      ∀ (v_68 : Nat × Int × List UInt8),
      (v_68.fst ≤ (List.drop (1 : Nat) l).length ∧ ((0 : Int) ≤ v_68.snd.fst ∧ v_68.snd.fst ≤ (100000 : Int)) ∧ v_68.snd.fst = (↑(catL l (v_68.fst + (1 : Nat))).length : Int) ∧ v_68.snd.snd.length = l.flatten.length ∧ JO l (v_68.fst + (1 : Nat)) v_68.snd.snd) →
      br (decide ((↑v_68.fst : Int) < (↑(List.drop (1 : Nat) l).length : Int)))
      (((0 : Int) ≤ (↑v_68.fst : Int)) ∧
       ((↑v_68.fst : Int) < (↑(List.drop (1 : Nat) l).length : Int)) ∧
       ((0 : Int) ≤ v_68.snd.fst) ∧
       (v_68.snd.fst ≤ (↑l.flatten.length : Int)) ∧
       ∀ (z70 : List UInt8),
       (z70 = List.take ((0 : Nat) + v_68.snd.fst.toNat) v_68.snd.snd ++ List.take (Nat.min (0 : Nat) (l.flatten.length - v_68.snd.fst.toNat)) [] ++ List.drop ((0 : Nat) + v_68.snd.fst.toNat + Nat.min (0 : Nat) (l.flatten.length - v_68.snd.fst.toNat)) v_68.snd.snd) →
       ∀ (n72 : Int),
       (n72 = IntKind.i64.wrap (v_68.snd.fst + (↑(Nat.min (0 : Nat) (l.flatten.length - v_68.snd.fst.toNat)) : Int))) →
       ((-9223372036854775808 : Int) ≤ n72 ∧ n72 ≤ (9223372036854775807 : Int)) →
       ((0 : Int) ≤ n72) ∧
       (n72 ≤ (↑l.flatten.length : Int)) ∧
       ∀ (z75 : List UInt8),
       (z75 = List.take ((0 : Nat) + n72.toNat) z70 ++ List.take (((List.drop (1 : Nat) l).getD (↑v_68.fst : Int).toNat (dflt (6 : Nat))).length.min (l.flatten.length - n72.toNat)) ((List.drop (1 : Nat) l).getD (↑v_68.fst : Int).toNat (dflt (6 : Nat))) ++ List.drop ((0 : Nat) + n72.toNat + ((List.drop (1 : Nat) l).getD (↑v_68.fst : Int).toNat (dflt (6 : Nat))).length.min (l.flatten.length - n72.toNat)) z70) →
       ∀ (n77 : Int),
       (n77 = IntKind.i64.wrap (n72 + (↑(((List.drop (1 : Nat) l).getD (↑v_68.fst : Int).toNat (dflt (6 : Nat))).length.min (l.flatten.length - n72.toNat)) : Int))) →
       ((-9223372036854775808 : Int) ≤ n77 ∧ n77 ≤ (9223372036854775807 : Int)) →
       ∀ (n80 : Int),
       (n80 = IntKind.i64.wrap ((↑v_68.fst : Int) + (1 : Int))) →
       ((-9223372036854775808 : Int) ≤ n80 ∧ n80 ≤ (9223372036854775807 : Int)) →
       ∃ (v' : Nat × Int × List UInt8),
       ((0 : Nat) = (0 : Nat)) ∧
       (l.flatten.length = l.flatten.length) ∧
       (n77 = v'.snd.fst) ∧
       (List.drop (1 : Nat) l = List.drop (1 : Nat) l) ∧
       ((↑(List.drop (1 : Nat) l).length : Int) = (↑(List.drop (1 : Nat) l).length : Int)) ∧
       (n80 = (↑v'.fst : Int)) ∧
       (z75 = v'.snd.snd) ∧
       (
       (v'.fst ≤ (List.drop (1 : Nat) l).length) ∧
       (
        ((0 : Int) ≤ v'.snd.fst) ∧
        (v'.snd.fst ≤ (100000 : Int))) ∧
       (v'.snd.fst = (↑(catL l (v'.fst + (1 : Nat))).length : Int)) ∧
       (v'.snd.snd.length = l.flatten.length) ∧
       (JO l (v'.fst + (1 : Nat)) v'.snd.snd)) ∧
       ((List.drop (1 : Nat) l).length - v'.fst < (List.drop (1 : Nat) l).length - v_68.fst))
      ((k (AV.row (0 : Nat) (0 : Nat) (0 : Nat) l.flatten.length) [] [Blk.row (0 : Nat) v_68.snd.snd])))))
   (∀ (n83 : Int),
    (n83 = (↑l.length : Int)) →
    ((-9223372036854775808 : Int) ≤ n83 ∧ n83 ≤ (9223372036854775807 : Int)) →
    (
    ∃ (v : Nat × Int),
    (l = l) ∧
    ((0 : Int) = v.snd) ∧
    (l = l) ∧
    (n83 = (↑l.length : Int)) ∧
    ((0 : Int) = (↑v.fst : Int)) ∧
    (v.fst ≤ l.length) ∧
    (
     ((0 : Int) ≤ v.snd) ∧
     (v.snd ≤ (100000 : Int))) ∧
    (v.snd = (↑(catL l v.fst).length : Int))) ∧
    ∀ (v_86 : Nat × Int),
    (v_86.fst ≤ l.length ∧ ((0 : Int) ≤ v_86.snd ∧ v_86.snd ≤ (100000 : Int)) ∧ v_86.snd = (↑(catL l v_86.fst).length : Int)) →
    br (decide ((↑v_86.fst : Int) < (↑l.length : Int)))
    (((0 : Int) ≤ (↑v_86.fst : Int)) ∧
     ((↑v_86.fst : Int) < (↑l.length : Int)) ∧
     ∀ (n88 : Int),
     (n88 = (↑(l.getD (↑v_86.fst : Int).toNat (dflt (6 : Nat))).length : Int)) →
     ((-9223372036854775808 : Int) ≤ n88 ∧ n88 ≤ (9223372036854775807 : Int)) →
     ∀ (n91 : Int),
     (n91 = IntKind.i64.wrap ((9223372036854775807 : Int) - v_86.snd)) →
     ((-9223372036854775808 : Int) ≤ n91 ∧ n91 ≤ (9223372036854775807 : Int)) →
     br (decide (n88 > n91))
     ((False))
     (∀ (n94 : Int),
      (n94 = (↑(l.getD (↑v_86.fst : Int).toNat (dflt (6 : Nat))).length : Int)) →
      ((-9223372036854775808 : Int) ≤ n94 ∧ n94 ≤ (9223372036854775807 : Int)) →
      ∀ (n97 : Int),
      (n97 = IntKind.i64.wrap (v_86.snd + n94)) →
      ((-9223372036854775808 : Int) ≤ n97 ∧ n97 ≤ (9223372036854775807 : Int)) →
      ∀ (n100 : Int),
      (n100 = IntKind.i64.wrap ((↑v_86.fst : Int) + (1 : Int))) →
      ((-9223372036854775808 : Int) ≤ n100 ∧ n100 ≤ (9223372036854775807 : Int)) →
      ∃ (v' : Nat × Int),
      (l = l) ∧
      (n97 = v'.snd) ∧
      (l = l) ∧
      ((↑l.length : Int) = (↑l.length : Int)) ∧
      (n100 = (↑v'.fst : Int)) ∧
      (
      (v'.fst ≤ l.length) ∧
      (
       ((0 : Int) ≤ v'.snd) ∧
       (v'.snd ≤ (100000 : Int))) ∧
      (v'.snd = (↑(catL l v'.fst).length : Int))) ∧
      (l.length - v'.fst < l.length - v_86.fst)))
    ((
     ((0 : Int) ≤ v_86.snd) ∧
     (v_86.snd ≤ (1000000 : Int))) ∧
     ∀ (xs_103 : List UInt8),
     ∀ (q_104 : Nat),
     ((↑q_104 : Int) = v_86.snd) →
     (xs_103.length = q_104) →
     ((0 : Int) ≤ v_86.snd) ∧
     (v_86.snd ≤ v_86.snd) ∧
     (v_86.snd ≤ (↑q_104 : Int)) ∧
     ((0 : Int) ≤ (0 : Int)) ∧
     ((0 : Int) < (↑l.length : Int)) ∧
     ∀ (z107 : List UInt8),
     (z107 = List.take (0 : Nat) xs_103 ++ List.take ((l.getD (Int.toNat (0 : Int)) (dflt (6 : Nat))).length.min v_86.snd.toNat) (l.getD (Int.toNat (0 : Int)) (dflt (6 : Nat))) ++ List.drop ((0 : Nat) + (l.getD (Int.toNat (0 : Int)) (dflt (6 : Nat))).length.min v_86.snd.toNat) xs_103) →
     ((0 : Int) ≤ (1 : Int)) ∧
     ((1 : Int) ≤ (↑l.length : Int)) ∧
     ∀ (n109 : Int),
     (n109 = (↑(List.drop (Int.toNat (1 : Int)) l).length : Int)) →
     ((-9223372036854775808 : Int) ≤ n109 ∧ n109 ≤ (9223372036854775807 : Int)) →
     (
     ∃ (v : Nat × Int × List UInt8),
     ((0 : Nat) = (0 : Nat)) ∧
     (v_86.snd.toNat = l.flatten.length) ∧
     ((↑((l.getD (Int.toNat (0 : Int)) (dflt (6 : Nat))).length.min v_86.snd.toNat) : Int) = v.snd.fst) ∧
     (List.drop (Int.toNat (1 : Int)) l = List.drop (1 : Nat) l) ∧
     (n109 = (↑(List.drop (1 : Nat) l).length : Int)) ∧
     ((0 : Int) = (↑v.fst : Int)) ∧
     (z107 = v.snd.snd) ∧
     (v.fst ≤ (List.drop (1 : Nat) l).length) ∧
     (
      ((0 : Int) ≤ v.snd.fst) ∧
      (v.snd.fst ≤ (100000 : Int))) ∧
     (v.snd.fst = (↑(catL l (v.fst + (1 : Nat))).length : Int)) ∧
     (v.snd.snd.length = l.flatten.length) ∧
     (JO l (v.fst + (1 : Nat)) v.snd.snd)) ∧
     ∀ (v_112 : Nat × Int × List UInt8),
     (v_112.fst ≤ (List.drop (1 : Nat) l).length ∧ ((0 : Int) ≤ v_112.snd.fst ∧ v_112.snd.fst ≤ (100000 : Int)) ∧ v_112.snd.fst = (↑(catL l (v_112.fst + (1 : Nat))).length : Int) ∧ v_112.snd.snd.length = l.flatten.length ∧ JO l (v_112.fst + (1 : Nat)) v_112.snd.snd) →
     br (decide ((↑v_112.fst : Int) < (↑(List.drop (1 : Nat) l).length : Int)))
     (((0 : Int) ≤ (↑v_112.fst : Int)) ∧
      ((↑v_112.fst : Int) < (↑(List.drop (1 : Nat) l).length : Int)) ∧
      ((0 : Int) ≤ v_112.snd.fst) ∧
      (v_112.snd.fst ≤ (↑l.flatten.length : Int)) ∧
      ∀ (z114 : List UInt8),
      (z114 = List.take ((0 : Nat) + v_112.snd.fst.toNat) v_112.snd.snd ++ List.take (Nat.min (0 : Nat) (l.flatten.length - v_112.snd.fst.toNat)) [] ++ List.drop ((0 : Nat) + v_112.snd.fst.toNat + Nat.min (0 : Nat) (l.flatten.length - v_112.snd.fst.toNat)) v_112.snd.snd) →
      ∀ (n116 : Int),
      (n116 = IntKind.i64.wrap (v_112.snd.fst + (↑(Nat.min (0 : Nat) (l.flatten.length - v_112.snd.fst.toNat)) : Int))) →
      ((-9223372036854775808 : Int) ≤ n116 ∧ n116 ≤ (9223372036854775807 : Int)) →
      ((0 : Int) ≤ n116) ∧
      (n116 ≤ (↑l.flatten.length : Int)) ∧
      ∀ (z119 : List UInt8),
      (z119 = List.take ((0 : Nat) + n116.toNat) z114 ++ List.take (((List.drop (1 : Nat) l).getD (↑v_112.fst : Int).toNat (dflt (6 : Nat))).length.min (l.flatten.length - n116.toNat)) ((List.drop (1 : Nat) l).getD (↑v_112.fst : Int).toNat (dflt (6 : Nat))) ++ List.drop ((0 : Nat) + n116.toNat + ((List.drop (1 : Nat) l).getD (↑v_112.fst : Int).toNat (dflt (6 : Nat))).length.min (l.flatten.length - n116.toNat)) z114) →
      ∀ (n121 : Int),
      (n121 = IntKind.i64.wrap (n116 + (↑(((List.drop (1 : Nat) l).getD (↑v_112.fst : Int).toNat (dflt (6 : Nat))).length.min (l.flatten.length - n116.toNat)) : Int))) →
      ((-9223372036854775808 : Int) ≤ n121 ∧ n121 ≤ (9223372036854775807 : Int)) →
      ∀ (n124 : Int),
      (n124 = IntKind.i64.wrap ((↑v_112.fst : Int) + (1 : Int))) →
      ((-9223372036854775808 : Int) ≤ n124 ∧ n124 ≤ (9223372036854775807 : Int)) →
      ∃ (v' : Nat × Int × List UInt8),
      ((0 : Nat) = (0 : Nat)) ∧
      (l.flatten.length = l.flatten.length) ∧
      (n121 = v'.snd.fst) ∧
      (List.drop (1 : Nat) l = List.drop (1 : Nat) l) ∧
      ((↑(List.drop (1 : Nat) l).length : Int) = (↑(List.drop (1 : Nat) l).length : Int)) ∧
      (n124 = (↑v'.fst : Int)) ∧
      (z119 = v'.snd.snd) ∧
      (
      (v'.fst ≤ (List.drop (1 : Nat) l).length) ∧
      (
       ((0 : Int) ≤ v'.snd.fst) ∧
       (v'.snd.fst ≤ (100000 : Int))) ∧
      (v'.snd.fst = (↑(catL l (v'.fst + (1 : Nat))).length : Int)) ∧
      (v'.snd.snd.length = l.flatten.length) ∧
      (JO l (v'.fst + (1 : Nat)) v'.snd.snd)) ∧
      ((List.drop (1 : Nat) l).length - v'.fst < (List.drop (1 : Nat) l).length - v_112.fst))
     ((k (AV.row (0 : Nat) (0 : Nat) (0 : Nat) l.flatten.length) [] [Blk.row (0 : Nat) v_112.snd.snd])))))) := by
 intro n1
 intro q1
 intro ⟨l1, u1⟩
 refine br_intro (fun c1 => ?_) (fun c1 => ?_)
 ·
  simp at c1
  exfalso; omega
 ·
  simp at c1
  intro n4
  intro q4
  intro ⟨l4, u4⟩
  refine br_intro (fun c2 => ?_) (fun c2 => ?_)
  ·
   simp at c2
   exfalso; omega
  ·
   simp at c2
   intro n9
   intro q9
   intro ⟨l9, u9⟩
   refine brd (fun c3 => ?_) (fun c3 => ?_)
   ·
    exfalso; omega
   ·
    intro n83
    intro q83
    intro ⟨l83, u83⟩
    refine ⟨?_, ?_⟩
    ·
     refine ⟨(Int.toNat (0 : Int), (0 : Int)), ?_⟩
     refine ⟨by first | with_reducible rfl | rfl, ?_⟩
     refine ⟨by first | with_reducible rfl | rfl, ?_⟩
     refine ⟨by first | with_reducible rfl | rfl, ?_⟩
     refine ⟨by show n83 = (↑l.length : Int); assumption, ?_⟩
     refine ⟨by show (0 : Int) = (↑(Int.toNat (0 : Int)) : Int); omega, ?_⟩
     refine ⟨by show Int.toNat (0 : Int) ≤ l.length; omega, ?_⟩
     refine ⟨by first | omega | (dsimp only; omega), ?_⟩
     exact by rfl
    intro v_86
    intro h4
    refine brd (fun c5 => ?_) (fun c5 => ?_)
    ·
     refine ⟨by first | omega | (dsimp only; omega), ?_⟩
     refine ⟨by assumption, ?_⟩
     intro n88
     intro q88
     intro ⟨l88, u88⟩
     intro n91
     intro q91
     rw [IntKind.wrap_i64] at q91
     intro ⟨l91, u91⟩
     refine brd (fun c6 => ?_) (fun c6 => ?_)
     ·
      rw [Int.toNat_natCast] at q88
      have ce := catL_elem (l := l) (i := v_86.fst) (by omega)
      omega
     ·
      intro n94
      intro q94
      intro ⟨l94, u94⟩
      intro n97
      intro q97
      rw [IntKind.wrap_i64] at q97
      intro ⟨l97, u97⟩
      intro n100
      intro q100
      rw [IntKind.wrap_i64] at q100
      intro ⟨l100, u100⟩
      refine ⟨(n100.toNat, n97), ?_⟩
      refine ⟨by first | with_reducible rfl | rfl, ?_⟩
      refine ⟨by first | with_reducible rfl | rfl, ?_⟩
      refine ⟨by first | with_reducible rfl | rfl, ?_⟩
      refine ⟨by first | with_reducible rfl | rfl, ?_⟩
      refine ⟨by show n100 = (↑n100.toNat : Int); omega, ?_⟩
      refine ⟨?_, ?_⟩
      ·
       refine ⟨by show n100.toNat ≤ l.length; omega, ?_⟩
       refine ⟨?_, ?_⟩
       ·
        refine ⟨by show (0 : Int) ≤ n97; omega, ?_⟩
        rw [Int.toNat_natCast] at q94
        have ce := catL_elem (l := l) (i := v_86.fst) (by omega)
        omega
       rw [Int.toNat_natCast] at q94
       have ce := catL_elem (l := l) (i := v_86.fst) (by omega)
       rw [show n100.toNat = v_86.fst + 1 by omega, catL_step (by omega), List.length_append]; omega
      exact by show l.length - n100.toNat < l.length - v_86.fst; omega
    ·
     refine ⟨by first | omega | (dsimp only; omega), ?_⟩
     intro xs_103
     intro q_104
     intro h7
     intro h8
     refine ⟨by first | omega | (dsimp only; omega), ?_⟩
     refine ⟨by first | omega | (dsimp only; omega), ?_⟩
     refine ⟨by first | omega | (dsimp only; omega), ?_⟩
     refine ⟨by first | omega | (dsimp only; omega), ?_⟩
     refine ⟨by first | omega | (dsimp only; omega), ?_⟩
     intro z107
     intro qz107
     refine ⟨by first | omega | (dsimp only; omega), ?_⟩
     refine ⟨by first | omega | (dsimp only; omega), ?_⟩
     intro n109
     intro q109
     intro ⟨l109, u109⟩
     refine ⟨?_, ?_⟩
     ·
      refine ⟨(Int.toNat (0 : Int), (↑((l.getD (Int.toNat (0 : Int)) (dflt (6 : Nat))).length.min v_86.snd.toNat) : Int), z107), ?_⟩
      refine ⟨by first | with_reducible rfl | rfl, ?_⟩
      have h9 : v_86.snd.toNat = l.flatten.length := by
       have := catL_all (l := l) (i := v_86.fst) (by omega); rw [this] at h4; omega
      refine ⟨h9, ?_⟩
      refine ⟨by first | with_reducible rfl | rfl, ?_⟩
      refine ⟨by rfl, ?_⟩
      refine ⟨by show n109 = (↑(List.drop (1 : Nat) l).length : Int); assumption, ?_⟩
      refine ⟨by show (0 : Int) = (↑(Int.toNat (0 : Int)) : Int); omega, ?_⟩
      refine ⟨by first | with_reducible rfl | rfl, ?_⟩
      refine ⟨by show Int.toNat (0 : Int) ≤ (List.drop (1 : Nat) l).length; omega, ?_⟩
      refine ⟨?_, ?_⟩
      ·
       refine ⟨by show (0 : Int) ≤ (↑((l.getD (Int.toNat (0 : Int)) (dflt (6 : Nat))).length.min v_86.snd.toNat) : Int); omega, ?_⟩
       have fl : v_86.snd.toNat = l.flatten.length := by have := catL_all (l := l) (i := v_86.fst) (by omega); rw [this] at h4; omega
       have := Nat.min_le_right (l.getD (Int.toNat 0) (dflt 6)).length v_86.snd.toNat
       have e : (l.getD (Int.toNat 0) (dflt 6)).length.min v_86.snd.toNat ≤ v_86.snd.toNat := this
       dsimp only
       omega
      have h10 : (↑((l.getD (Int.toNat (0 : Int)) (dflt (6 : Nat))).length.min v_86.snd.toNat) : Int) = (↑(catL l (Int.toNat (0 : Int) + (1 : Nat))).length : Int) := by
       have fl : v_86.snd.toNat = l.flatten.length := by have := catL_all (l := l) (i := v_86.fst) (by omega); rw [this] at h4; omega
       obtain ⟨j1, j2, j3⟩ := jo_first (l := l) (by omega) fl (by omega) qz107
       exact congrArg _ j1
      refine ⟨h10, ?_⟩
      have h11 : z107.length = l.flatten.length := by
       have fl : v_86.snd.toNat = l.flatten.length := by have := catL_all (l := l) (i := v_86.fst) (by omega); rw [this] at h4; omega
       obtain ⟨j1, j2, j3⟩ := jo_first (l := l) (by omega) fl (by omega) qz107
       exact j2
      refine ⟨h11, ?_⟩
      have fl : v_86.snd.toNat = l.flatten.length := by have := catL_all (l := l) (i := v_86.fst) (by omega); rw [this] at h4; omega
      obtain ⟨j1, j2, j3⟩ := jo_first (l := l) (by omega) fl (by omega) qz107
      exact j3
     intro v_112
     intro h12
     refine brd (fun c13 => ?_) (fun c13 => ?_)
     ·
      refine ⟨by first | omega | (dsimp only; omega), ?_⟩
      refine ⟨by assumption, ?_⟩
      refine ⟨by first | omega | (dsimp only; omega), ?_⟩
      have h14 : v_112.snd.fst ≤ (↑l.flatten.length : Int) := by
       have e0 : Nat.min 0 (l.flatten.length - v_112.snd.fst.toNat) = 0 := Nat.min_eq_left (Nat.zero_le _)
       have ld : (List.drop 1 l).length = l.length - 1 := by simp
       have cl := catL_le l (v_112.fst + 1)
       omega
      refine ⟨h14, ?_⟩
      intro z114
      intro qz114
      intro n116
      intro q116
      rw [IntKind.wrap_i64] at q116
      intro ⟨l116, u116⟩
      have h15 : (0 : Int) ≤ n116 := by
       have e0 : Nat.min 0 (l.flatten.length - v_112.snd.fst.toNat) = 0 := Nat.min_eq_left (Nat.zero_le _)
       have ld : (List.drop 1 l).length = l.length - 1 := by simp
       have cl := catL_le l (v_112.fst + 1)
       rw [e0] at q116
       have n1 : n116 = v_112.snd.fst := by omega
       omega
      refine ⟨h15, ?_⟩
      have h16 : n116 ≤ (↑l.flatten.length : Int) := by
       have e0 : Nat.min 0 (l.flatten.length - v_112.snd.fst.toNat) = 0 := Nat.min_eq_left (Nat.zero_le _)
       have ld : (List.drop 1 l).length = l.length - 1 := by simp
       have cl := catL_le l (v_112.fst + 1)
       rw [e0] at q116
       have n1 : n116 = v_112.snd.fst := by omega
       omega
      refine ⟨h16, ?_⟩
      intro z119
      intro qz119
      intro n121
      intro q121
      rw [IntKind.wrap_i64] at q121
      intro ⟨l121, u121⟩
      intro n124
      intro q124
      rw [IntKind.wrap_i64] at q124
      intro ⟨l124, u124⟩
      refine ⟨(n124.toNat, n121, z119), ?_⟩
      refine ⟨by first | with_reducible rfl | rfl, ?_⟩
      refine ⟨by first | with_reducible rfl | rfl, ?_⟩
      refine ⟨by first | with_reducible rfl | rfl, ?_⟩
      refine ⟨by first | with_reducible rfl | rfl, ?_⟩
      refine ⟨by first | with_reducible rfl | rfl, ?_⟩
      have h17 : n124 = (↑n124.toNat : Int) := by
       have ld : (List.drop 1 l).length = l.length - 1 := by simp
       omega
      refine ⟨h17, ?_⟩
      refine ⟨by first | with_reducible rfl | rfl, ?_⟩
      refine ⟨?_, ?_⟩
      ·
       refine ⟨by show n124.toNat ≤ (List.drop (1 : Nat) l).length; omega, ?_⟩
       refine ⟨?_, ?_⟩
       ·
        have h18 : (0 : Int) ≤ n121 := by
         have e0 : Nat.min 0 (l.flatten.length - v_112.snd.fst.toNat) = 0 := Nat.min_eq_left (Nat.zero_le _)
         have ld : (List.drop 1 l).length = l.length - 1 := by simp
         have cl := catL_le l (v_112.fst + 1)
         rw [e0] at q116
         have n1 : n116 = v_112.snd.fst := by omega
         have z1 : z114 = v_112.snd.snd := by rw [qz114, e0]; simp
         rw [Int.toNat_natCast, get_drop] at q121 qz119
         rw [z1] at qz119
         obtain ⟨j1, j2, j3⟩ := jo_step (l := l) (i := v_112.fst + 1) (p := n116.toNat) (by omega) (by omega) h12.2.2.2.1 h12.2.2.2.2 qz119
         have ce := catL_elem (l := l) (i := v_112.fst + 1) (by omega)
         have cs := catL_step (l := l) (i := v_112.fst + 1) (by omega)
         have cn : (catL l (v_112.fst + 1 + 1)).length = (catL l (v_112.fst + 1)).length + (l.getD (v_112.fst + 1) (dflt 6)).length := by rw [cs, List.length_append]
         rw [j1] at q121
         have n2 : n121 = v_112.snd.fst + ((l.getD (v_112.fst + 1) (dflt 6)).length : Int) := by omega
         have n3 : n124.toNat = v_112.fst + 1 := by omega
         omega
        refine ⟨h18, ?_⟩
        have e0 : Nat.min 0 (l.flatten.length - v_112.snd.fst.toNat) = 0 := Nat.min_eq_left (Nat.zero_le _)
        have ld : (List.drop 1 l).length = l.length - 1 := by simp
        have cl := catL_le l (v_112.fst + 1)
        rw [e0] at q116
        have n1 : n116 = v_112.snd.fst := by omega
        have z1 : z114 = v_112.snd.snd := by rw [qz114, e0]; simp
        rw [Int.toNat_natCast, get_drop] at q121 qz119
        rw [z1] at qz119
        obtain ⟨j1, j2, j3⟩ := jo_step (l := l) (i := v_112.fst + 1) (p := n116.toNat) (by omega) (by omega) h12.2.2.2.1 h12.2.2.2.2 qz119
        have ce := catL_elem (l := l) (i := v_112.fst + 1) (by omega)
        have cs := catL_step (l := l) (i := v_112.fst + 1) (by omega)
        have cn : (catL l (v_112.fst + 1 + 1)).length = (catL l (v_112.fst + 1)).length + (l.getD (v_112.fst + 1) (dflt 6)).length := by rw [cs, List.length_append]
        rw [j1] at q121
        have n2 : n121 = v_112.snd.fst + ((l.getD (v_112.fst + 1) (dflt 6)).length : Int) := by omega
        have n3 : n124.toNat = v_112.fst + 1 := by omega
        dsimp only
        omega
       have h19 : n121 = (↑(catL l (n124.toNat + (1 : Nat))).length : Int) := by
        have e0 : Nat.min 0 (l.flatten.length - v_112.snd.fst.toNat) = 0 := Nat.min_eq_left (Nat.zero_le _)
        have ld : (List.drop 1 l).length = l.length - 1 := by simp
        have cl := catL_le l (v_112.fst + 1)
        rw [e0] at q116
        have n1 : n116 = v_112.snd.fst := by omega
        have z1 : z114 = v_112.snd.snd := by rw [qz114, e0]; simp
        rw [Int.toNat_natCast, get_drop] at q121 qz119
        rw [z1] at qz119
        obtain ⟨j1, j2, j3⟩ := jo_step (l := l) (i := v_112.fst + 1) (p := n116.toNat) (by omega) (by omega) h12.2.2.2.1 h12.2.2.2.2 qz119
        have ce := catL_elem (l := l) (i := v_112.fst + 1) (by omega)
        have cs := catL_step (l := l) (i := v_112.fst + 1) (by omega)
        have cn : (catL l (v_112.fst + 1 + 1)).length = (catL l (v_112.fst + 1)).length + (l.getD (v_112.fst + 1) (dflt 6)).length := by rw [cs, List.length_append]
        rw [j1] at q121
        have n2 : n121 = v_112.snd.fst + ((l.getD (v_112.fst + 1) (dflt 6)).length : Int) := by omega
        have n3 : n124.toNat = v_112.fst + 1 := by omega
        rw [n3, cn]; omega
       refine ⟨h19, ?_⟩
       have h20 : z119.length = l.flatten.length := by
        have e0 : Nat.min 0 (l.flatten.length - v_112.snd.fst.toNat) = 0 := Nat.min_eq_left (Nat.zero_le _)
        have ld : (List.drop 1 l).length = l.length - 1 := by simp
        have cl := catL_le l (v_112.fst + 1)
        rw [e0] at q116
        have n1 : n116 = v_112.snd.fst := by omega
        have z1 : z114 = v_112.snd.snd := by rw [qz114, e0]; simp
        rw [Int.toNat_natCast, get_drop] at q121 qz119
        rw [z1] at qz119
        obtain ⟨j1, j2, j3⟩ := jo_step (l := l) (i := v_112.fst + 1) (p := n116.toNat) (by omega) (by omega) h12.2.2.2.1 h12.2.2.2.2 qz119
        have ce := catL_elem (l := l) (i := v_112.fst + 1) (by omega)
        have cs := catL_step (l := l) (i := v_112.fst + 1) (by omega)
        have cn : (catL l (v_112.fst + 1 + 1)).length = (catL l (v_112.fst + 1)).length + (l.getD (v_112.fst + 1) (dflt 6)).length := by rw [cs, List.length_append]
        rw [j1] at q121
        have n2 : n121 = v_112.snd.fst + ((l.getD (v_112.fst + 1) (dflt 6)).length : Int) := by omega
        have n3 : n124.toNat = v_112.fst + 1 := by omega
        exact j2
       refine ⟨h20, ?_⟩
       have e0 : Nat.min 0 (l.flatten.length - v_112.snd.fst.toNat) = 0 := Nat.min_eq_left (Nat.zero_le _)
       have ld : (List.drop 1 l).length = l.length - 1 := by simp
       have cl := catL_le l (v_112.fst + 1)
       rw [e0] at q116
       have n1 : n116 = v_112.snd.fst := by omega
       have z1 : z114 = v_112.snd.snd := by rw [qz114, e0]; simp
       rw [Int.toNat_natCast, get_drop] at q121 qz119
       rw [z1] at qz119
       obtain ⟨j1, j2, j3⟩ := jo_step (l := l) (i := v_112.fst + 1) (p := n116.toNat) (by omega) (by omega) h12.2.2.2.1 h12.2.2.2.2 qz119
       have ce := catL_elem (l := l) (i := v_112.fst + 1) (by omega)
       have cs := catL_step (l := l) (i := v_112.fst + 1) (by omega)
       have cn : (catL l (v_112.fst + 1 + 1)).length = (catL l (v_112.fst + 1)).length + (l.getD (v_112.fst + 1) (dflt 6)).length := by rw [cs, List.length_append]
       rw [j1] at q121
       have n2 : n121 = v_112.snd.fst + ((l.getD (v_112.fst + 1) (dflt 6)).length : Int) := by omega
       have n3 : n124.toNat = v_112.fst + 1 := by omega
       rw [n3]; exact j3
      have ld : (List.drop 1 l).length = l.length - 1 := by simp
      omega
     ·
      have ld : (List.drop 1 l).length = l.length - 1 := by simp
      exact hk _ _ (jo_all h12.2.2.2.2 (by omega) h12.2.2.2.1) h12.2.2.2.1

theorem join_ok : Holds Try.prog 36 joinS := by
  refine fn_sound (env := mkEnv H1) (tab_ok H1_ok) Try.func36 Try.call36 fun args k h => ?_
  match args, h with
  | [.sl 6 l, .nilsl], h => exact ⟨by kernel_rfl, joinLoops l, fun _ _ => none, .cast (by kernel_rfl) (join_vc l h.1 k h.2)⟩
end Go.Proofs.Ytcdflgfhkohldaa

