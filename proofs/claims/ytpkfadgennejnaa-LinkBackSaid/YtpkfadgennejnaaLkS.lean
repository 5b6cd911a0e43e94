import Derived.Test.YtpkfadgennejnaaLkR
namespace Go.Proofs.Ytpkfadgennejnaa
open Go Go.Eng Go.Rw Go.Lk Go.Proofs
set_option linter.unusedVariables false
set_option maxHeartbeats 2000000 in
theorem report_vc (s : Int) (m : Int) (t : Int) (l : List Int) (hl : l.length ≤ (1000000 : Nat)) (k : AV → List (Option Blk) → List Blk → Prop) (hk : (∀ (e : Int), e = rE s m t l → e ≠ (0 : Int) → k (AV.tup [AV.nilsl, AV.int IntKind.i64 e]) [] []) ∧ (rE s m t l = (0 : Int) → ∀ (ys : List UInt8) (n : Nat), ys = rO s m t l → ys.length = n → k (AV.tup [AV.row (0 : Nat) (0 : Nat) (0 : Nat) n, AV.int IntKind.i64 (0 : Int)]) [] [Blk.row (0 : Nat) ys])) :
  ∀ (n1 : Int),
  (n1 = s) →
  ((-9223372036854775808 : Int) ≤ n1 ∧ n1 ≤ (9223372036854775807 : Int)) →
  (
   ((-9223372036854775808 : Int) ≤ n1) ∧
   (n1 ≤ (9223372036854775807 : Int))) ∧
  ∀ (r_4 : Bool),
  (r_4 = true ↔ (0 : Int) ≤ n1 ∧ n1 ≤ (65535 : Int)) →
  br (!r_4)
   (br (!r_4)
     ((k (AV.tup [AV.nilsl, AV.int IntKind.i64 (2 : Int)]) [] []))
     (∀ (n6 : Int),
      (n6 = (↑l.length : Int)) →
      ((-9223372036854775808 : Int) ≤ n6 ∧ n6 ≤ (9223372036854775807 : Int)) →
      br (decide (n6 > (8 : Int)))
       ((k (AV.tup [AV.nilsl, AV.int IntKind.i64 (4 : Int)]) [] []))
       (∀ (n9 : Int),
        (n9 = s) →
        ((-9223372036854775808 : Int) ≤ n9 ∧ n9 ≤ (9223372036854775807 : Int)) →
        ∀ (n12 : Int),
        (n12 = m) →
        ((0 : Int) ≤ n12 ∧ n12 ≤ (255 : Int)) →
        ∀ (n15 : Int),
        (n15 = IntKind.i64.wrap n12) →
        ((-9223372036854775808 : Int) ≤ n15 ∧ n15 ≤ (9223372036854775807 : Int)) →
        ∀ (n18 : Int),
        (n18 = t) →
        ((-9223372036854775808 : Int) ≤ n18 ∧ n18 ≤ (9223372036854775807 : Int)) →
        ∀ (n21 : Int),
        (n21 = (↑l.length : Int)) →
        ((-9223372036854775808 : Int) ≤ n21 ∧ n21 ≤ (9223372036854775807 : Int)) →
        ((List.take (4 : Nat) (List.drop (0 : Nat) [n9, n15, n18, n21])).length ≤ (1000000 : Nat)) ∧
        ∀ (ys_24 : List UInt8),
        ∀ (n_25 : Nat),
        (ys_24 = sms (List.take (4 : Nat) (List.drop (0 : Nat) [n9, n15, n18, n21]))) →
        (ys_24.length = n_25) →
        ∀ (n28 : Int),
        (n28 = (↑l.length : Int)) →
        ((-9223372036854775808 : Int) ≤ n28 ∧ n28 ≤ (9223372036854775807 : Int)) →
        (
         ∃ (v : Nat × Nat × List UInt8),
         ((0 : Nat) = (0 : Nat)) ∧
         (n_25 = v.snd.fst) ∧
         (l = l) ∧
         (n28 = (↑l.length : Int)) ∧
         ((0 : Int) = (↑v.fst : Int)) ∧
         (ys_24 = v.snd.snd) ∧
         (v.fst ≤ l.length) ∧
         (l.length ≤ (8 : Nat)) ∧
         (v.snd.snd.length = v.snd.fst) ∧
         (v.snd.fst ≤ (100 : Nat) + (10 : Nat) * v.fst) ∧
         (v.snd.snd = sms [s, m, t, (↑l.length : Int)] ++ sms (List.take v.fst l)) ∧
         (allIn (70368744177664 : Int) l v.fst) ∧
         (
          ((0 : Int) ≤ s) ∧
          (s ≤ (65535 : Int))) ∧
         (m ≤ (3 : Int)) ∧
         ((0 : Int) ≤ t) ∧
         (t ≤ (1073741824 : Int))) ∧
        ∀ (v_31 : Nat × Nat × List UInt8),
        (v_31.fst ≤ l.length ∧ l.length ≤ (8 : Nat) ∧ v_31.snd.snd.length = v_31.snd.fst ∧ v_31.snd.fst ≤ (100 : Nat) + (10 : Nat) * v_31.fst ∧ v_31.snd.snd = sms [s, m, t, (↑l.length : Int)] ++ sms (List.take v_31.fst l) ∧ allIn (70368744177664 : Int) l v_31.fst ∧ ((0 : Int) ≤ s ∧ s ≤ (65535 : Int)) ∧ m ≤ (3 : Int) ∧ (0 : Int) ≤ t ∧ t ≤ (1073741824 : Int)) →
        br (decide ((↑v_31.fst : Int) < (↑l.length : Int)))
         (((0 : Int) ≤ (↑v_31.fst : Int)) ∧
          ((↑v_31.fst : Int) < (↑l.length : Int)) ∧
          ∀ (n33 : Int),
          (n33 = l.getD (↑v_31.fst : Int).toNat (0 : Int)) →
          ((-9223372036854775808 : Int) ≤ n33 ∧ n33 ≤ (9223372036854775807 : Int)) →
          br (bif decide (n33 < (0 : Int)) then true else decide (n33 > (70368744177664 : Int)))
           ((k (AV.tup [AV.nilsl, AV.int IntKind.i64 (2 : Int)]) [] []))
           ((
             (v_31.snd.fst = v_31.snd.snd.length) ∧
             (v_31.snd.fst ≤ (1000000 : Nat)) ∧
             ((List.take (1 : Nat) (List.drop (0 : Nat) [n33])).length ≤ (1000000 : Nat))) ∧
            ∀ (ys_36 : List UInt8),
            ∀ (n_37 : Nat),
            (ys_36 = v_31.snd.snd ++ sms (List.take (1 : Nat) (List.drop (0 : Nat) [n33]))) →
            (ys_36.length = n_37) →
            ∀ (n40 : Int),
            (n40 = IntKind.i64.wrap ((↑v_31.fst : Int) + (1 : Int))) →
            ((-9223372036854775808 : Int) ≤ n40 ∧ n40 ≤ (9223372036854775807 : Int)) →
            ∃ (v' : Nat × Nat × List UInt8),
            ((0 : Nat) = (0 : Nat)) ∧
            (n_37 = v'.snd.fst) ∧
            (l = l) ∧
            ((↑l.length : Int) = (↑l.length : Int)) ∧
            (n40 = (↑v'.fst : Int)) ∧
            (ys_36 = v'.snd.snd) ∧
            (
             (v'.fst ≤ l.length) ∧
             (l.length ≤ (8 : Nat)) ∧
             (v'.snd.snd.length = v'.snd.fst) ∧
             (v'.snd.fst ≤ (100 : Nat) + (10 : Nat) * v'.fst) ∧
             (v'.snd.snd = sms [s, m, t, (↑l.length : Int)] ++ sms (List.take v'.fst l)) ∧
             (allIn (70368744177664 : Int) l v'.fst) ∧
             (
              ((0 : Int) ≤ s) ∧
              (s ≤ (65535 : Int))) ∧
             (m ≤ (3 : Int)) ∧
             ((0 : Int) ≤ t) ∧
             (t ≤ (1073741824 : Int))) ∧
            (l.length - v'.fst < l.length - v_31.fst)))
         ((k (AV.tup [AV.row (0 : Nat) (0 : Nat) (0 : Nat) v_31.snd.fst, AV.int IntKind.i64 (0 : Int)]) [] [Blk.row (0 : Nat) v_31.snd.snd])))))
   (∀ (n43 : Int),
    (n43 = m) →
    ((0 : Int) ≤ n43 ∧ n43 ≤ (255 : Int)) →
    br (decide (n43 > (3 : Int)))
     (br (decide (n43 > (3 : Int)))
       ((k (AV.tup [AV.nilsl, AV.int IntKind.i64 (2 : Int)]) [] []))
       (∀ (n46 : Int),
        (n46 = (↑l.length : Int)) →
        ((-9223372036854775808 : Int) ≤ n46 ∧ n46 ≤ (9223372036854775807 : Int)) →
        br (decide (n46 > (8 : Int)))
         ((k (AV.tup [AV.nilsl, AV.int IntKind.i64 (4 : Int)]) [] []))
         (∀ (n49 : Int),
          (n49 = s) →
          ((-9223372036854775808 : Int) ≤ n49 ∧ n49 ≤ (9223372036854775807 : Int)) →
          ∀ (n52 : Int),
          (n52 = m) →
          ((0 : Int) ≤ n52 ∧ n52 ≤ (255 : Int)) →
          ∀ (n55 : Int),
          (n55 = IntKind.i64.wrap n52) →
          ((-9223372036854775808 : Int) ≤ n55 ∧ n55 ≤ (9223372036854775807 : Int)) →
          ∀ (n58 : Int),
          (n58 = t) →
          ((-9223372036854775808 : Int) ≤ n58 ∧ n58 ≤ (9223372036854775807 : Int)) →
          ∀ (n61 : Int),
          (n61 = (↑l.length : Int)) →
          ((-9223372036854775808 : Int) ≤ n61 ∧ n61 ≤ (9223372036854775807 : Int)) →
          ((List.take (4 : Nat) (List.drop (0 : Nat) [n49, n55, n58, n61])).length ≤ (1000000 : Nat)) ∧
          ∀ (ys_64 : List UInt8),
          ∀ (n_65 : Nat),
          (ys_64 = sms (List.take (4 : Nat) (List.drop (0 : Nat) [n49, n55, n58, n61]))) →
          (ys_64.length = n_65) →
          ∀ (n68 : Int),
          (n68 = (↑l.length : Int)) →
          ((-9223372036854775808 : Int) ≤ n68 ∧ n68 ≤ (9223372036854775807 : Int)) →
          (
           ∃ (v : Nat × Nat × List UInt8),
           ((0 : Nat) = (0 : Nat)) ∧
           (n_65 = v.snd.fst) ∧
           (l = l) ∧
           (n68 = (↑l.length : Int)) ∧
           ((0 : Int) = (↑v.fst : Int)) ∧
           (ys_64 = v.snd.snd) ∧
           (v.fst ≤ l.length) ∧
           (l.length ≤ (8 : Nat)) ∧
           (v.snd.snd.length = v.snd.fst) ∧
           (v.snd.fst ≤ (100 : Nat) + (10 : Nat) * v.fst) ∧
           (v.snd.snd = sms [s, m, t, (↑l.length : Int)] ++ sms (List.take v.fst l)) ∧
           (allIn (70368744177664 : Int) l v.fst) ∧
           (
            ((0 : Int) ≤ s) ∧
            (s ≤ (65535 : Int))) ∧
           (m ≤ (3 : Int)) ∧
           ((0 : Int) ≤ t) ∧
           (t ≤ (1073741824 : Int))) ∧
          ∀ (v_71 : Nat × Nat × List UInt8),
          (v_71.fst ≤ l.length ∧ l.length ≤ (8 : Nat) ∧ v_71.snd.snd.length = v_71.snd.fst ∧ v_71.snd.fst ≤ (100 : Nat) + (10 : Nat) * v_71.fst ∧ v_71.snd.snd = sms [s, m, t, (↑l.length : Int)] ++ sms (List.take v_71.fst l) ∧ allIn (70368744177664 : Int) l v_71.fst ∧ ((0 : Int) ≤ s ∧ s ≤ (65535 : Int)) ∧ m ≤ (3 : Int) ∧ (0 : Int) ≤ t ∧ t ≤ (1073741824 : Int)) →
          br (decide ((↑v_71.fst : Int) < (↑l.length : Int)))
           (((0 : Int) ≤ (↑v_71.fst : Int)) ∧
            ((↑v_71.fst : Int) < (↑l.length : Int)) ∧
            ∀ (n73 : Int),
            (n73 = l.getD (↑v_71.fst : Int).toNat (0 : Int)) →
            ((-9223372036854775808 : Int) ≤ n73 ∧ n73 ≤ (9223372036854775807 : Int)) →
            br (bif decide (n73 < (0 : Int)) then true else decide (n73 > (70368744177664 : Int)))
             ((k (AV.tup [AV.nilsl, AV.int IntKind.i64 (2 : Int)]) [] []))
             ((
               (v_71.snd.fst = v_71.snd.snd.length) ∧
               (v_71.snd.fst ≤ (1000000 : Nat)) ∧
               ((List.take (1 : Nat) (List.drop (0 : Nat) [n73])).length ≤ (1000000 : Nat))) ∧
              ∀ (ys_76 : List UInt8),
              ∀ (n_77 : Nat),
              (ys_76 = v_71.snd.snd ++ sms (List.take (1 : Nat) (List.drop (0 : Nat) [n73]))) →
              (ys_76.length = n_77) →
              ∀ (n80 : Int),
              (n80 = IntKind.i64.wrap ((↑v_71.fst : Int) + (1 : Int))) →
              ((-9223372036854775808 : Int) ≤ n80 ∧ n80 ≤ (9223372036854775807 : Int)) →
              ∃ (v' : Nat × Nat × List UInt8),
              ((0 : Nat) = (0 : Nat)) ∧
              (n_77 = v'.snd.fst) ∧
              (l = l) ∧
              ((↑l.length : Int) = (↑l.length : Int)) ∧
              (n80 = (↑v'.fst : Int)) ∧
              (ys_76 = v'.snd.snd) ∧
              (
               (v'.fst ≤ l.length) ∧
               (l.length ≤ (8 : Nat)) ∧
               (v'.snd.snd.length = v'.snd.fst) ∧
               (v'.snd.fst ≤ (100 : Nat) + (10 : Nat) * v'.fst) ∧
               (v'.snd.snd = sms [s, m, t, (↑l.length : Int)] ++ sms (List.take v'.fst l)) ∧
               (allIn (70368744177664 : Int) l v'.fst) ∧
               (
                ((0 : Int) ≤ s) ∧
                (s ≤ (65535 : Int))) ∧
               (m ≤ (3 : Int)) ∧
               ((0 : Int) ≤ t) ∧
               (t ≤ (1073741824 : Int))) ∧
              (l.length - v'.fst < l.length - v_71.fst)))
           ((k (AV.tup [AV.row (0 : Nat) (0 : Nat) (0 : Nat) v_71.snd.fst, AV.int IntKind.i64 (0 : Int)]) [] [Blk.row (0 : Nat) v_71.snd.snd])))))
     (∀ (n83 : Int),
      (n83 = t) →
      ((-9223372036854775808 : Int) ≤ n83 ∧ n83 ≤ (9223372036854775807 : Int)) →
      br (decide (n83 < (0 : Int)))
       (br (decide (n83 < (0 : Int)))
         ((k (AV.tup [AV.nilsl, AV.int IntKind.i64 (2 : Int)]) [] []))
         (∀ (n86 : Int),
          (n86 = (↑l.length : Int)) →
          ((-9223372036854775808 : Int) ≤ n86 ∧ n86 ≤ (9223372036854775807 : Int)) →
          br (decide (n86 > (8 : Int)))
           ((k (AV.tup [AV.nilsl, AV.int IntKind.i64 (4 : Int)]) [] []))
           (∀ (n89 : Int),
            (n89 = s) →
            ((-9223372036854775808 : Int) ≤ n89 ∧ n89 ≤ (9223372036854775807 : Int)) →
            ∀ (n92 : Int),
            (n92 = m) →
            ((0 : Int) ≤ n92 ∧ n92 ≤ (255 : Int)) →
            ∀ (n95 : Int),
            (n95 = IntKind.i64.wrap n92) →
            ((-9223372036854775808 : Int) ≤ n95 ∧ n95 ≤ (9223372036854775807 : Int)) →
            ∀ (n98 : Int),
            (n98 = t) →
            ((-9223372036854775808 : Int) ≤ n98 ∧ n98 ≤ (9223372036854775807 : Int)) →
            ∀ (n101 : Int),
            (n101 = (↑l.length : Int)) →
            ((-9223372036854775808 : Int) ≤ n101 ∧ n101 ≤ (9223372036854775807 : Int)) →
            ((List.take (4 : Nat) (List.drop (0 : Nat) [n89, n95, n98, n101])).length ≤ (1000000 : Nat)) ∧
            ∀ (ys_104 : List UInt8),
            ∀ (n_105 : Nat),
            (ys_104 = sms (List.take (4 : Nat) (List.drop (0 : Nat) [n89, n95, n98, n101]))) →
            (ys_104.length = n_105) →
            ∀ (n108 : Int),
            (n108 = (↑l.length : Int)) →
            ((-9223372036854775808 : Int) ≤ n108 ∧ n108 ≤ (9223372036854775807 : Int)) →
            (
             ∃ (v : Nat × Nat × List UInt8),
             ((0 : Nat) = (0 : Nat)) ∧
             (n_105 = v.snd.fst) ∧
             (l = l) ∧
             (n108 = (↑l.length : Int)) ∧
             ((0 : Int) = (↑v.fst : Int)) ∧
             (ys_104 = v.snd.snd) ∧
             (v.fst ≤ l.length) ∧
             (l.length ≤ (8 : Nat)) ∧
             (v.snd.snd.length = v.snd.fst) ∧
             (v.snd.fst ≤ (100 : Nat) + (10 : Nat) * v.fst) ∧
             (v.snd.snd = sms [s, m, t, (↑l.length : Int)] ++ sms (List.take v.fst l)) ∧
             (allIn (70368744177664 : Int) l v.fst) ∧
             (
              ((0 : Int) ≤ s) ∧
              (s ≤ (65535 : Int))) ∧
             (m ≤ (3 : Int)) ∧
             ((0 : Int) ≤ t) ∧
             (t ≤ (1073741824 : Int))) ∧
            ∀ (v_111 : Nat × Nat × List UInt8),
            (v_111.fst ≤ l.length ∧ l.length ≤ (8 : Nat) ∧ v_111.snd.snd.length = v_111.snd.fst ∧ v_111.snd.fst ≤ (100 : Nat) + (10 : Nat) * v_111.fst ∧ v_111.snd.snd = sms [s, m, t, (↑l.length : Int)] ++ sms (List.take v_111.fst l) ∧ allIn (70368744177664 : Int) l v_111.fst ∧ ((0 : Int) ≤ s ∧ s ≤ (65535 : Int)) ∧ m ≤ (3 : Int) ∧ (0 : Int) ≤ t ∧ t ≤ (1073741824 : Int)) →
            br (decide ((↑v_111.fst : Int) < (↑l.length : Int)))
             (((0 : Int) ≤ (↑v_111.fst : Int)) ∧
              ((↑v_111.fst : Int) < (↑l.length : Int)) ∧
              ∀ (n113 : Int),
              (n113 = l.getD (↑v_111.fst : Int).toNat (0 : Int)) →
              ((-9223372036854775808 : Int) ≤ n113 ∧ n113 ≤ (9223372036854775807 : Int)) →
              br (bif decide (n113 < (0 : Int)) then true else decide (n113 > (70368744177664 : Int)))
               ((k (AV.tup [AV.nilsl, AV.int IntKind.i64 (2 : Int)]) [] []))
               ((
                 (v_111.snd.fst = v_111.snd.snd.length) ∧
                 (v_111.snd.fst ≤ (1000000 : Nat)) ∧
                 ((List.take (1 : Nat) (List.drop (0 : Nat) [n113])).length ≤ (1000000 : Nat))) ∧
                ∀ (ys_116 : List UInt8),
                ∀ (n_117 : Nat),
                (ys_116 = v_111.snd.snd ++ sms (List.take (1 : Nat) (List.drop (0 : Nat) [n113]))) →
                (ys_116.length = n_117) →
                ∀ (n120 : Int),
                (n120 = IntKind.i64.wrap ((↑v_111.fst : Int) + (1 : Int))) →
                ((-9223372036854775808 : Int) ≤ n120 ∧ n120 ≤ (9223372036854775807 : Int)) →
                ∃ (v' : Nat × Nat × List UInt8),
                ((0 : Nat) = (0 : Nat)) ∧
                (n_117 = v'.snd.fst) ∧
                (l = l) ∧
                ((↑l.length : Int) = (↑l.length : Int)) ∧
                (n120 = (↑v'.fst : Int)) ∧
                (ys_116 = v'.snd.snd) ∧
                (
                 (v'.fst ≤ l.length) ∧
                 (l.length ≤ (8 : Nat)) ∧
                 (v'.snd.snd.length = v'.snd.fst) ∧
                 (v'.snd.fst ≤ (100 : Nat) + (10 : Nat) * v'.fst) ∧
                 (v'.snd.snd = sms [s, m, t, (↑l.length : Int)] ++ sms (List.take v'.fst l)) ∧
                 (allIn (70368744177664 : Int) l v'.fst) ∧
                 (
                  ((0 : Int) ≤ s) ∧
                  (s ≤ (65535 : Int))) ∧
                 (m ≤ (3 : Int)) ∧
                 ((0 : Int) ≤ t) ∧
                 (t ≤ (1073741824 : Int))) ∧
                (l.length - v'.fst < l.length - v_111.fst)))
             ((k (AV.tup [AV.row (0 : Nat) (0 : Nat) (0 : Nat) v_111.snd.fst, AV.int IntKind.i64 (0 : Int)]) [] [Blk.row (0 : Nat) v_111.snd.snd])))))
       (∀ (n123 : Int),
        (n123 = t) →
        ((-9223372036854775808 : Int) ≤ n123 ∧ n123 ≤ (9223372036854775807 : Int)) →
        br (decide (n123 > (1073741824 : Int)))
         ((k (AV.tup [AV.nilsl, AV.int IntKind.i64 (2 : Int)]) [] []))
         (∀ (n126 : Int),
          (n126 = (↑l.length : Int)) →
          ((-9223372036854775808 : Int) ≤ n126 ∧ n126 ≤ (9223372036854775807 : Int)) →
          br (decide (n126 > (8 : Int)))
           ((k (AV.tup [AV.nilsl, AV.int IntKind.i64 (4 : Int)]) [] []))
           (∀ (n129 : Int),
            (n129 = s) →
            ((-9223372036854775808 : Int) ≤ n129 ∧ n129 ≤ (9223372036854775807 : Int)) →
            ∀ (n132 : Int),
            (n132 = m) →
            ((0 : Int) ≤ n132 ∧ n132 ≤ (255 : Int)) →
            ∀ (n135 : Int),
            (n135 = IntKind.i64.wrap n132) →
            ((-9223372036854775808 : Int) ≤ n135 ∧ n135 ≤ (9223372036854775807 : Int)) →
            ∀ (n138 : Int),
            (n138 = t) →
            ((-9223372036854775808 : Int) ≤ n138 ∧ n138 ≤ (9223372036854775807 : Int)) →
            ∀ (n141 : Int),
            (n141 = (↑l.length : Int)) →
            ((-9223372036854775808 : Int) ≤ n141 ∧ n141 ≤ (9223372036854775807 : Int)) →
            ((List.take (4 : Nat) (List.drop (0 : Nat) [n129, n135, n138, n141])).length ≤ (1000000 : Nat)) ∧
            ∀ (ys_144 : List UInt8),
            ∀ (n_145 : Nat),
            (ys_144 = sms (List.take (4 : Nat) (List.drop (0 : Nat) [n129, n135, n138, n141]))) →
            (ys_144.length = n_145) →
            ∀ (n148 : Int),
            (n148 = (↑l.length : Int)) →
            ((-9223372036854775808 : Int) ≤ n148 ∧ n148 ≤ (9223372036854775807 : Int)) →
            (
             ∃ (v : Nat × Nat × List UInt8),
             ((0 : Nat) = (0 : Nat)) ∧
             (n_145 = v.snd.fst) ∧
             (l = l) ∧
             (n148 = (↑l.length : Int)) ∧
             ((0 : Int) = (↑v.fst : Int)) ∧
             (ys_144 = v.snd.snd) ∧
             (v.fst ≤ l.length) ∧
             (l.length ≤ (8 : Nat)) ∧
             (v.snd.snd.length = v.snd.fst) ∧
             (v.snd.fst ≤ (100 : Nat) + (10 : Nat) * v.fst) ∧
             (v.snd.snd = sms [s, m, t, (↑l.length : Int)] ++ sms (List.take v.fst l)) ∧
             (allIn (70368744177664 : Int) l v.fst) ∧
             (
              ((0 : Int) ≤ s) ∧
              (s ≤ (65535 : Int))) ∧
             (m ≤ (3 : Int)) ∧
             ((0 : Int) ≤ t) ∧
             (t ≤ (1073741824 : Int))) ∧
            ∀ (v_151 : Nat × Nat × List UInt8),
            (v_151.fst ≤ l.length ∧ l.length ≤ (8 : Nat) ∧ v_151.snd.snd.length = v_151.snd.fst ∧ v_151.snd.fst ≤ (100 : Nat) + (10 : Nat) * v_151.fst ∧ v_151.snd.snd = sms [s, m, t, (↑l.length : Int)] ++ sms (List.take v_151.fst l) ∧ allIn (70368744177664 : Int) l v_151.fst ∧ ((0 : Int) ≤ s ∧ s ≤ (65535 : Int)) ∧ m ≤ (3 : Int) ∧ (0 : Int) ≤ t ∧ t ≤ (1073741824 : Int)) →
            br (decide ((↑v_151.fst : Int) < (↑l.length : Int)))
             (((0 : Int) ≤ (↑v_151.fst : Int)) ∧
              ((↑v_151.fst : Int) < (↑l.length : Int)) ∧
              ∀ (n153 : Int),
              (n153 = l.getD (↑v_151.fst : Int).toNat (0 : Int)) →
              ((-9223372036854775808 : Int) ≤ n153 ∧ n153 ≤ (9223372036854775807 : Int)) →
              br (bif decide (n153 < (0 : Int)) then true else decide (n153 > (70368744177664 : Int)))
               ((k (AV.tup [AV.nilsl, AV.int IntKind.i64 (2 : Int)]) [] []))
               ((
                 (v_151.snd.fst = v_151.snd.snd.length) ∧
                 (v_151.snd.fst ≤ (1000000 : Nat)) ∧
                 ((List.take (1 : Nat) (List.drop (0 : Nat) [n153])).length ≤ (1000000 : Nat))) ∧
                ∀ (ys_156 : List UInt8),
                ∀ (n_157 : Nat),
                (ys_156 = v_151.snd.snd ++ sms (List.take (1 : Nat) (List.drop (0 : Nat) [n153]))) →
                (ys_156.length = n_157) →
                ∀ (n160 : Int),
                (n160 = IntKind.i64.wrap ((↑v_151.fst : Int) + (1 : Int))) →
                ((-9223372036854775808 : Int) ≤ n160 ∧ n160 ≤ (9223372036854775807 : Int)) →
                ∃ (v' : Nat × Nat × List UInt8),
                ((0 : Nat) = (0 : Nat)) ∧
                (n_157 = v'.snd.fst) ∧
                (l = l) ∧
                ((↑l.length : Int) = (↑l.length : Int)) ∧
                (n160 = (↑v'.fst : Int)) ∧
                (ys_156 = v'.snd.snd) ∧
                (
                 (v'.fst ≤ l.length) ∧
                 (l.length ≤ (8 : Nat)) ∧
                 (v'.snd.snd.length = v'.snd.fst) ∧
                 (v'.snd.fst ≤ (100 : Nat) + (10 : Nat) * v'.fst) ∧
                 (v'.snd.snd = sms [s, m, t, (↑l.length : Int)] ++ sms (List.take v'.fst l)) ∧
                 (allIn (70368744177664 : Int) l v'.fst) ∧
                 (
                  ((0 : Int) ≤ s) ∧
                  (s ≤ (65535 : Int))) ∧
                 (m ≤ (3 : Int)) ∧
                 ((0 : Int) ≤ t) ∧
                 (t ≤ (1073741824 : Int))) ∧
                (l.length - v'.fst < l.length - v_151.fst)))
             ((k (AV.tup [AV.row (0 : Nat) (0 : Nat) (0 : Nat) v_151.snd.fst, AV.int IntKind.i64 (0 : Int)]) [] [Blk.row (0 : Nat) v_151.snd.snd]))))))) := by
  intro n1
  intro q1 -- n1 = s
  intro ⟨l1, u1⟩ -- (-9223372036854775808 : Int) ≤ n1 ∧ n1 ≤ (9223372036854775807 : Int)
  refine ⟨by exact ⟨by assumption, by assumption⟩, ?_⟩ -- (-9223372036854775808 : Int) ≤ n1 ∧ n1 ≤ (9223372036854775807 : Int)
  intro r_4
  intro h1 -- r_4 = true ↔ (0 : Int) ≤ n1 ∧ n1 ≤ (65535 : Int)
  refine br_intro (fun c2 => ?_) (fun c2 => ?_) -- !r_4
  · -- yes
    simp at c2 -- r_4 = false
    refine br_intro (fun c3 => ?_) (fun c3 => ?_) -- !r_4
    · -- yes
      simp at c3 -- r_4 = false
      -- k (AV.tup [AV.nilsl, AV.int IntKind.i64 (2 : Int)]) [] []
      have bb : ¬ (0 ≤ n1 ∧ n1 ≤ 65535) := fun c => (by rw [h1.2 c] at c2; cases c2)
      exact hk.1 2 (rE_2 (by omega)).symm (by decide)
    · -- no
      simp at c3 -- r_4 = true
      intro n6
      intro q6 -- n6 = (↑l.length : Int)
      intro ⟨l6, u6⟩ -- (-9223372036854775808 : Int) ≤ n6 ∧ n6 ≤ (9223372036854775807 : Int)
      refine brd (fun c4 => ?_) (fun c4 => ?_) -- decide (n6 > (8 : Int))
      · -- yes
        -- k (AV.tup [AV.nilsl, AV.int IntKind.i64 (4 : Int)]) [] []
        exact Bool.noConfusion (c2.symm.trans c3)
      · -- no
        intro n9
        intro q9 -- n9 = s
        intro ⟨l9, u9⟩ -- (-9223372036854775808 : Int) ≤ n9 ∧ n9 ≤ (9223372036854775807 : Int)
        intro n12
        intro q12 -- n12 = m
        intro ⟨l12, u12⟩ -- (0 : Int) ≤ n12 ∧ n12 ≤ (255 : Int)
        intro n15
        intro q15 -- n15 = IntKind.i64.wrap n12
        rw [IntKind.wrap_i64] at q15
        intro ⟨l15, u15⟩ -- (-9223372036854775808 : Int) ≤ n15 ∧ n15 ≤ (9223372036854775807 : Int)
        intro n18
        intro q18 -- n18 = t
        intro ⟨l18, u18⟩ -- (-9223372036854775808 : Int) ≤ n18 ∧ n18 ≤ (9223372036854775807 : Int)
        intro n21
        intro q21 -- n21 = (↑l.length : Int)
        intro ⟨l21, u21⟩ -- (-9223372036854775808 : Int) ≤ n21 ∧ n21 ≤ (9223372036854775807 : Int)
        have h5 : (List.take (4 : Nat) (List.drop (0 : Nat) [n9, n15, n18, n21])).length ≤ (1000000 : Nat) := by
          exact Bool.noConfusion (c2.symm.trans c3)
        refine ⟨h5, ?_⟩
        intro ys_24
        intro n_25
        intro h6 -- ys_24 = sms (List.take (4 : Nat) (List.drop (0 : Nat) [n9, n15, n18, n21]))
        intro h7 -- ys_24.length = n_25
        intro n28
        intro q28 -- n28 = (↑l.length : Int)
        intro ⟨l28, u28⟩ -- (-9223372036854775808 : Int) ≤ n28 ∧ n28 ≤ (9223372036854775807 : Int)
        refine ⟨?_, ?_⟩
        · -- left
          refine ⟨(Int.toNat (0 : Int), n_25, ys_24), ?_⟩
          refine ⟨by first | with_reducible rfl | rfl, ?_⟩ -- (0 : Nat) = (0 : Nat)
          refine ⟨by first | with_reducible rfl | rfl, ?_⟩ -- n_25 = n_25
          refine ⟨by first | with_reducible rfl | rfl, ?_⟩ -- l = l
          refine ⟨by show n28 = (↑l.length : Int); assumption, ?_⟩ -- n28 = (↑l.length : Int)
          refine ⟨by show (0 : Int) = (↑(Int.toNat (0 : Int)) : Int); omega, ?_⟩ -- (0 : Int) = (↑(Int.toNat (0 : Int)) : Int)
          refine ⟨by first | with_reducible rfl | rfl, ?_⟩ -- ys_24 = ys_24
          refine ⟨by show Int.toNat (0 : Int) ≤ l.length; omega, ?_⟩ -- Int.toNat (0 : Int) ≤ l.length
          refine ⟨by show l.length ≤ (8 : Nat); omega, ?_⟩ -- l.length ≤ (8 : Nat)
          refine ⟨by show ys_24.length = n_25; assumption, ?_⟩ -- ys_24.length = n_25
          have h8 : n_25 ≤ (100 : Nat) + (10 : Nat) * Int.toNat (0 : Int) := by
            exact Bool.noConfusion (c2.symm.trans c3)
          refine ⟨h8, ?_⟩
          have h9 : ys_24 = sms [s, m, t, (↑l.length : Int)] ++ sms (List.take (Int.toNat (0 : Int)) l) := by
            exact Bool.noConfusion (c2.symm.trans c3)
          refine ⟨h9, ?_⟩
          have h10 : allIn (70368744177664 : Int) l (Int.toNat (0 : Int)) := by
            exact Bool.noConfusion (c2.symm.trans c3)
          refine ⟨h10, ?_⟩
          refine ⟨?_, ?_⟩
          · -- left
            have h11 : (0 : Int) ≤ s := by
              exact Bool.noConfusion (c2.symm.trans c3)
            refine ⟨h11, ?_⟩
            -- s ≤ (65535 : Int)
            exact Bool.noConfusion (c2.symm.trans c3)
          have h12 : m ≤ (3 : Int) := by
            exact Bool.noConfusion (c2.symm.trans c3)
          refine ⟨h12, ?_⟩
          have h13 : (0 : Int) ≤ t := by
            exact Bool.noConfusion (c2.symm.trans c3)
          refine ⟨h13, ?_⟩
          -- t ≤ (1073741824 : Int)
          exact Bool.noConfusion (c2.symm.trans c3)
        intro v_31
        intro h14 -- v_31.fst ≤ l.length ∧ l.length ≤ (8 : Nat) ∧ v_31.snd.snd.length = v_31.snd.fst ∧ v_31.snd.fst ≤ (100 : Nat) + (10 : Nat) * v_31.fst ∧ v_31.snd.snd = sms [s, m, t, (↑l.length : Int)] ++ sms (List.take v_31.fst l) ∧ allIn (70368744177664 : Int) l v_31.fst ∧ ((0 : Int) ≤ s ∧ s ≤ (65535 : Int)) ∧ m ≤ (3 : Int) ∧ (0 : Int) ≤ t ∧ t ≤ (1073741824 : Int)
        refine brd (fun c15 => ?_) (fun c15 => ?_) -- decide ((↑v_31.fst : Int) < (↑l.length : Int))
        · -- yes
          refine ⟨by first | omega | (dsimp only; omega), ?_⟩ -- (0 : Int) ≤ (↑v_31.fst : Int)
          refine ⟨by assumption, ?_⟩ -- (↑v_31.fst : Int) < (↑l.length : Int)
          intro n33
          intro q33 -- n33 = l.getD (↑v_31.fst : Int).toNat (0 : Int)
          intro ⟨l33, u33⟩ -- (-9223372036854775808 : Int) ≤ n33 ∧ n33 ≤ (9223372036854775807 : Int)
          refine br_intro (fun c16 => ?_) (fun c16 => ?_) -- bif decide (n33 < (0 : Int)) then true else decide (n33 > (70368744177664 : Int))
          · -- yes
            simp at c16 -- n33 < (0 : Int) ∨ (70368744177664 : Int) < n33
            -- k (AV.tup [AV.nilsl, AV.int IntKind.i64 (2 : Int)]) [] []
            exact Bool.noConfusion (c2.symm.trans c3)
          · -- no
            simp at c16 -- (0 : Int) ≤ n33 ∧ n33 ≤ (70368744177664 : Int)
            refine ⟨?_, ?_⟩
            · -- left
              refine ⟨by first | omega | (dsimp only; omega), ?_⟩ -- v_31.snd.fst = v_31.snd.snd.length
              refine ⟨by first | omega | (dsimp only; omega), ?_⟩ -- v_31.snd.fst ≤ (1000000 : Nat)
              -- (List.take (1 : Nat) (List.drop (0 : Nat) [n33])).length ≤ (1000000 : Nat)
              exact Bool.noConfusion (c2.symm.trans c3)
            intro ys_36
            intro n_37
            intro h17 -- ys_36 = v_31.snd.snd ++ sms (List.take (1 : Nat) (List.drop (0 : Nat) [n33]))
            intro h18 -- ys_36.length = n_37
            intro n40
            intro q40 -- n40 = IntKind.i64.wrap ((↑v_31.fst : Int) + (1 : Int))
            rw [IntKind.wrap_i64] at q40
            intro ⟨l40, u40⟩ -- (-9223372036854775808 : Int) ≤ n40 ∧ n40 ≤ (9223372036854775807 : Int)
            refine ⟨(n40.toNat, n_37, ys_36), ?_⟩
            refine ⟨by first | with_reducible rfl | rfl, ?_⟩ -- (0 : Nat) = (0 : Nat)
            refine ⟨by first | with_reducible rfl | rfl, ?_⟩ -- n_37 = n_37
            refine ⟨by first | with_reducible rfl | rfl, ?_⟩ -- l = l
            refine ⟨by first | with_reducible rfl | rfl, ?_⟩ -- (↑l.length : Int) = (↑l.length : Int)
            refine ⟨by show n40 = (↑n40.toNat : Int); omega, ?_⟩ -- n40 = (↑n40.toNat : Int)
            refine ⟨by first | with_reducible rfl | rfl, ?_⟩ -- ys_36 = ys_36
            refine ⟨?_, ?_⟩
            · -- left
              refine ⟨by show n40.toNat ≤ l.length; omega, ?_⟩ -- n40.toNat ≤ l.length
              refine ⟨by show l.length ≤ (8 : Nat); omega, ?_⟩ -- l.length ≤ (8 : Nat)
              refine ⟨by show ys_36.length = n_37; assumption, ?_⟩ -- ys_36.length = n_37
              have h19 : n_37 ≤ (100 : Nat) + (10 : Nat) * n40.toNat := by
                exact Bool.noConfusion (c2.symm.trans c3)
              refine ⟨h19, ?_⟩
              have h20 : ys_36 = sms [s, m, t, (↑l.length : Int)] ++ sms (List.take n40.toNat l) := by
                exact Bool.noConfusion (c2.symm.trans c3)
              refine ⟨h20, ?_⟩
              have h21 : allIn (70368744177664 : Int) l n40.toNat := by
                exact Bool.noConfusion (c2.symm.trans c3)
              refine ⟨h21, ?_⟩
              refine ⟨by first | omega | (dsimp only; omega), ?_⟩ -- (0 : Int) ≤ s ∧ s ≤ (65535 : Int)
              refine ⟨by show m ≤ (3 : Int); omega, ?_⟩ -- m ≤ (3 : Int)
              refine ⟨by show (0 : Int) ≤ t; omega, ?_⟩ -- (0 : Int) ≤ t
              exact by show t ≤ (1073741824 : Int); omega -- t ≤ (1073741824 : Int)
            exact by show l.length - n40.toNat < l.length - v_31.fst; omega -- l.length - n40.toNat < l.length - v_31.fst
        · -- no
          -- k (AV.tup [AV.row (0 : Nat) (0 : Nat) (0 : Nat) v_31.snd.fst, AV.int IntKind.i64 (0 : Int)]) [] [Blk.row (0 : Nat) v_31.snd.snd]
          exact Bool.noConfusion (c2.symm.trans c3)
  · -- no
    simp at c2 -- r_4 = true
    intro n43
    intro q43 -- n43 = m
    intro ⟨l43, u43⟩ -- (0 : Int) ≤ n43 ∧ n43 ≤ (255 : Int)
    refine brd (fun c22 => ?_) (fun c22 => ?_) -- decide (n43 > (3 : Int))
    · -- yes
      refine brd (fun c23 => ?_) (fun c23 => ?_) -- decide (n43 > (3 : Int))
      · -- yes
        -- k (AV.tup [AV.nilsl, AV.int IntKind.i64 (2 : Int)]) [] []
        exact hk.1 2 (rE_2 (by omega)).symm (by decide)
      · -- no
        exfalso; omega
    · -- no
      intro n83
      intro q83 -- n83 = t
      intro ⟨l83, u83⟩ -- (-9223372036854775808 : Int) ≤ n83 ∧ n83 ≤ (9223372036854775807 : Int)
      refine brd (fun c24 => ?_) (fun c24 => ?_) -- decide (n83 < (0 : Int))
      · -- yes
        refine brd (fun c25 => ?_) (fun c25 => ?_) -- decide (n83 < (0 : Int))
        · -- yes
          -- k (AV.tup [AV.nilsl, AV.int IntKind.i64 (2 : Int)]) [] []
          exact hk.1 2 (rE_2 (by omega)).symm (by decide)
        · -- no
          exfalso; omega
      · -- no
        intro n123
        intro q123 -- n123 = t
        intro ⟨l123, u123⟩ -- (-9223372036854775808 : Int) ≤ n123 ∧ n123 ≤ (9223372036854775807 : Int)
        refine brd (fun c26 => ?_) (fun c26 => ?_) -- decide (n123 > (1073741824 : Int))
        · -- yes
          -- k (AV.tup [AV.nilsl, AV.int IntKind.i64 (2 : Int)]) [] []
          exact hk.1 2 (rE_2 (by omega)).symm (by decide)
        · -- no
          intro n126
          intro q126 -- n126 = (↑l.length : Int)
          intro ⟨l126, u126⟩ -- (-9223372036854775808 : Int) ≤ n126 ∧ n126 ≤ (9223372036854775807 : Int)
          refine brd (fun c27 => ?_) (fun c27 => ?_) -- decide (n126 > (8 : Int))
          · -- yes
            -- k (AV.tup [AV.nilsl, AV.int IntKind.i64 (4 : Int)]) [] []
            have gg := h1.1 c2
            exact hk.1 4 (rE_4 (by omega) (by omega)).symm (by decide)
          · -- no
            intro n129
            intro q129 -- n129 = s
            intro ⟨l129, u129⟩ -- (-9223372036854775808 : Int) ≤ n129 ∧ n129 ≤ (9223372036854775807 : Int)
            intro n132
            intro q132 -- n132 = m
            intro ⟨l132, u132⟩ -- (0 : Int) ≤ n132 ∧ n132 ≤ (255 : Int)
            intro n135
            intro q135 -- n135 = IntKind.i64.wrap n132
            rw [IntKind.wrap_i64] at q135
            intro ⟨l135, u135⟩ -- (-9223372036854775808 : Int) ≤ n135 ∧ n135 ≤ (9223372036854775807 : Int)
            intro n138
            intro q138 -- n138 = t
            intro ⟨l138, u138⟩ -- (-9223372036854775808 : Int) ≤ n138 ∧ n138 ≤ (9223372036854775807 : Int)
            intro n141
            intro q141 -- n141 = (↑l.length : Int)
            intro ⟨l141, u141⟩ -- (-9223372036854775808 : Int) ≤ n141 ∧ n141 ≤ (9223372036854775807 : Int)
            have h28 : (List.take (4 : Nat) (List.drop (0 : Nat) [n129, n135, n138, n141])).length ≤ (1000000 : Nat) := by
              simp
            refine ⟨h28, ?_⟩
            intro ys_144
            intro n_145
            intro h29 -- ys_144 = sms (List.take (4 : Nat) (List.drop (0 : Nat) [n129, n135, n138, n141]))
            intro h30 -- ys_144.length = n_145
            intro n148
            intro q148 -- n148 = (↑l.length : Int)
            intro ⟨l148, u148⟩ -- (-9223372036854775808 : Int) ≤ n148 ∧ n148 ≤ (9223372036854775807 : Int)
            refine ⟨?_, ?_⟩
            · -- left
              refine ⟨(Int.toNat (0 : Int), n_145, ys_144), ?_⟩
              refine ⟨by first | with_reducible rfl | rfl, ?_⟩ -- (0 : Nat) = (0 : Nat)
              refine ⟨by first | with_reducible rfl | rfl, ?_⟩ -- n_145 = n_145
              refine ⟨by first | with_reducible rfl | rfl, ?_⟩ -- l = l
              refine ⟨by show n148 = (↑l.length : Int); assumption, ?_⟩ -- n148 = (↑l.length : Int)
              refine ⟨by show (0 : Int) = (↑(Int.toNat (0 : Int)) : Int); omega, ?_⟩ -- (0 : Int) = (↑(Int.toNat (0 : Int)) : Int)
              refine ⟨by first | with_reducible rfl | rfl, ?_⟩ -- ys_144 = ys_144
              refine ⟨by show Int.toNat (0 : Int) ≤ l.length; omega, ?_⟩ -- Int.toNat (0 : Int) ≤ l.length
              refine ⟨by show l.length ≤ (8 : Nat); omega, ?_⟩ -- l.length ≤ (8 : Nat)
              refine ⟨by show ys_144.length = n_145; assumption, ?_⟩ -- ys_144.length = n_145
              have h31 : n_145 ≤ (100 : Nat) + (10 : Nat) * Int.toNat (0 : Int) := by
                have := sms_le h29 h30 (k := 4) (by simp)
                omega
              refine ⟨h31, ?_⟩
              have h32 : ys_144 = sms [s, m, t, (↑l.length : Int)] ++ sms (List.take (Int.toNat (0 : Int)) l) := by
                rw [h29, show n129 = s by omega, show n135 = m by omega, show n138 = t by omega, show n141 = (l.length : Int) by omega]
                exact (List.append_nil _).symm
              refine ⟨h32, ?_⟩
              have h33 : allIn (70368744177664 : Int) l (Int.toNat (0 : Int)) := by
                exact ⟨fun x hx => by simp at hx⟩
              refine ⟨h33, ?_⟩
              refine ⟨?_, ?_⟩
              · -- left
                have h34 : (0 : Int) ≤ s := by
                  have gg := h1.1 c2
                  omega
                refine ⟨h34, ?_⟩
                -- s ≤ (65535 : Int)
                have gg := h1.1 c2
                omega
              refine ⟨by show m ≤ (3 : Int); omega, ?_⟩ -- m ≤ (3 : Int)
              refine ⟨by show (0 : Int) ≤ t; omega, ?_⟩ -- (0 : Int) ≤ t
              exact by show t ≤ (1073741824 : Int); omega -- t ≤ (1073741824 : Int)
            intro v_151
            intro h35 -- v_151.fst ≤ l.length ∧ l.length ≤ (8 : Nat) ∧ v_151.snd.snd.length = v_151.snd.fst ∧ v_151.snd.fst ≤ (100 : Nat) + (10 : Nat) * v_151.fst ∧ v_151.snd.snd = sms [s, m, t, (↑l.length : Int)] ++ sms (List.take v_151.fst l) ∧ allIn (70368744177664 : Int) l v_151.fst ∧ ((0 : Int) ≤ s ∧ s ≤ (65535 : Int)) ∧ m ≤ (3 : Int) ∧ (0 : Int) ≤ t ∧ t ≤ (1073741824 : Int)
            refine brd (fun c36 => ?_) (fun c36 => ?_) -- decide ((↑v_151.fst : Int) < (↑l.length : Int))
            · -- yes
              refine ⟨by first | omega | (dsimp only; omega), ?_⟩ -- (0 : Int) ≤ (↑v_151.fst : Int)
              refine ⟨by assumption, ?_⟩ -- (↑v_151.fst : Int) < (↑l.length : Int)
              intro n153
              intro q153 -- n153 = l.getD (↑v_151.fst : Int).toNat (0 : Int)
              intro ⟨l153, u153⟩ -- (-9223372036854775808 : Int) ≤ n153 ∧ n153 ≤ (9223372036854775807 : Int)
              refine br_intro (fun c37 => ?_) (fun c37 => ?_) -- bif decide (n153 < (0 : Int)) then true else decide (n153 > (70368744177664 : Int))
              · -- yes
                simp at c37 -- n153 < (0 : Int) ∨ (70368744177664 : Int) < n153
                -- k (AV.tup [AV.nilsl, AV.int IntKind.i64 (2 : Int)]) [] []
                refine hk.1 2 (rE_l (by omega) (by omega) fun c => ?_).symm (by decide)
                rw [Int.toNat_natCast] at q153
                have := c _ (mem_getD (l := l) (i := v_151.fst) (by omega))
                omega
              · -- no
                simp at c37 -- (0 : Int) ≤ n153 ∧ n153 ≤ (70368744177664 : Int)
                refine ⟨?_, ?_⟩
                · -- left
                  refine ⟨by first | omega | (dsimp only; omega), ?_⟩ -- v_151.snd.fst = v_151.snd.snd.length
                  refine ⟨by first | omega | (dsimp only; omega), ?_⟩ -- v_151.snd.fst ≤ (1000000 : Nat)
                  -- (List.take (1 : Nat) (List.drop (0 : Nat) [n153])).length ≤ (1000000 : Nat)
                  simp
                intro ys_156
                intro n_157
                intro h38 -- ys_156 = v_151.snd.snd ++ sms (List.take (1 : Nat) (List.drop (0 : Nat) [n153]))
                intro h39 -- ys_156.length = n_157
                intro n160
                intro q160 -- n160 = IntKind.i64.wrap ((↑v_151.fst : Int) + (1 : Int))
                rw [IntKind.wrap_i64] at q160
                intro ⟨l160, u160⟩ -- (-9223372036854775808 : Int) ≤ n160 ∧ n160 ≤ (9223372036854775807 : Int)
                refine ⟨(n160.toNat, n_157, ys_156), ?_⟩
                refine ⟨by first | with_reducible rfl | rfl, ?_⟩ -- (0 : Nat) = (0 : Nat)
                refine ⟨by first | with_reducible rfl | rfl, ?_⟩ -- n_157 = n_157
                refine ⟨by first | with_reducible rfl | rfl, ?_⟩ -- l = l
                refine ⟨by first | with_reducible rfl | rfl, ?_⟩ -- (↑l.length : Int) = (↑l.length : Int)
                refine ⟨by show n160 = (↑n160.toNat : Int); omega, ?_⟩ -- n160 = (↑n160.toNat : Int)
                refine ⟨by first | with_reducible rfl | rfl, ?_⟩ -- ys_156 = ys_156
                refine ⟨?_, ?_⟩
                · -- left
                  refine ⟨by show n160.toNat ≤ l.length; omega, ?_⟩ -- n160.toNat ≤ l.length
                  refine ⟨by show l.length ≤ (8 : Nat); omega, ?_⟩ -- l.length ≤ (8 : Nat)
                  refine ⟨by show ys_156.length = n_157; assumption, ?_⟩ -- ys_156.length = n_157
                  have h40 : n_157 ≤ (100 : Nat) + (10 : Nat) * n160.toNat := by
                    have e := congrArg List.length h38
                    rw [List.length_append] at e
                    have s := sms_len (List.take 1 (List.drop 0 [n153]))
                    have t : (List.take 1 (List.drop 0 [n153])).length ≤ 1 := by simp
                    omega
                  refine ⟨h40, ?_⟩
                  have h41 : ys_156 = sms [s, m, t, (↑l.length : Int)] ++ sms (List.take n160.toNat l) := by
                    rw [h38, h35.2.2.2.2.1, show n160.toNat = v_151.fst + 1 by omega, sms_step (l := l) (i := v_151.fst) (by omega), List.append_assoc]
                    congr 2
                    show sms [n153] = _
                    rw [sms_one, q153, Int.toNat_natCast]
                  refine ⟨h41, ?_⟩
                  have h42 : allIn (70368744177664 : Int) l n160.toNat := by
                    rw [Int.toNat_natCast] at q153
                    exact allin_step h35.2.2.2.2.2.1 (by omega) (by omega) (by omega)
                  refine ⟨h42, ?_⟩
                  refine ⟨by first | omega | (dsimp only; omega), ?_⟩ -- (0 : Int) ≤ s ∧ s ≤ (65535 : Int)
                  refine ⟨by show m ≤ (3 : Int); omega, ?_⟩ -- m ≤ (3 : Int)
                  refine ⟨by show (0 : Int) ≤ t; omega, ?_⟩ -- (0 : Int) ≤ t
                  exact by show t ≤ (1073741824 : Int); omega -- t ≤ (1073741824 : Int)
                exact by show l.length - n160.toNat < l.length - v_151.fst; omega -- l.length - n160.toNat < l.length - v_151.fst
            · -- no
              -- k (AV.tup [AV.row (0 : Nat) (0 : Nat) (0 : Nat) v_151.snd.fst, AV.int IntKind.i64 (0 : Int)]) [] [Blk.row (0 : Nat) v_151.snd.snd]
              have E : rE s m t l = 0 := rE_0.2 ⟨h35.2.2.2.2.2.2.1, h35.2.2.2.2.2.2.2.1, h35.2.2.2.2.2.2.2.2, h35.2.1, allin_end h35.2.2.2.2.2.1 (by omega)⟩
              exact hk.2 E _ _ (by unfold rO; rw [if_pos E, h35.2.2.2.2.1, List.take_of_length_le (by omega)]) h35.2.2.1

theorem report_ok : Holds Try.prog 23 reportS := by
  refine fn_sound (env := mkEnv M2) (tab_ok M2_ok) Try.func23 Try.call23 fun args k h => ?_
  match args, h with
  | [.agg [.int .i64 s, .int .u8 m, .int .i64 t, .sl 1 l]], h => exact ⟨by kernel_rfl, reportLoops s m t l, fun _ _ => none, .cast (by kernel_rfl) (report_vc s m t l h.1 k h.2)⟩
set_option maxHeartbeats 2000000 in
theorem rreport_vc (s : Int) (m : Int) (t : Int) (l : List Int) (hl : l.length ≤ (1000000 : Nat)) (k : AV → List (Option Blk) → List Blk → Prop) (hk : (∀ (e : Int), e = rE s m t l → e ≠ (0 : Int) → k (AV.tup [AV.nilsl, AV.int IntKind.i64 e]) [] []) ∧ (rE s m t l = (0 : Int) → ∀ (ys : List UInt8) (n : Nat), ys = rO s m t l → ys.length = n → k (AV.tup [AV.row (0 : Nat) (0 : Nat) (0 : Nat) n, AV.int IntKind.i64 (0 : Int)]) [] [Blk.row (0 : Nat) ys])) :
  ∀ (n1 : Int),
  (n1 = s) →
  ((-9223372036854775808 : Int) ≤ n1 ∧ n1 ≤ (9223372036854775807 : Int)) →
  ∀ (n4 : Int),
  (n4 = s) →
  ∀ (n6 : Int),
  (n6 = m) →
  ∀ (n8 : Int),
  (n8 = t) →
  ∀ (n10 : Int),
  (n10 = t) →
  br (bif bif bif bif decide (n1 < (0 : Int)) then true else decide (n4 > (65535 : Int)) then true else decide (n6 > (3 : Int)) then true else decide (n8 < (0 : Int)) then true else decide (n10 > (1073741824 : Int)))
   ((k (AV.tup [AV.nilsl, AV.int IntKind.i64 (2 : Int)]) [] []))
   (∀ (n12 : Int),
    (n12 = (↑l.length : Int)) →
    ((-9223372036854775808 : Int) ≤ n12 ∧ n12 ≤ (9223372036854775807 : Int)) →
    br (decide (n12 > (8 : Int)))
     ((k (AV.tup [AV.nilsl, AV.int IntKind.i64 (4 : Int)]) [] []))
     (∀ (n15 : Int),
      (n15 = s) →
      ((-9223372036854775808 : Int) ≤ n15 ∧ n15 ≤ (9223372036854775807 : Int)) →
      ∀ (n18 : Int),
      (n18 = m) →
      ((0 : Int) ≤ n18 ∧ n18 ≤ (255 : Int)) →
      ∀ (n21 : Int),
      (n21 = IntKind.i64.wrap n18) →
      ((-9223372036854775808 : Int) ≤ n21 ∧ n21 ≤ (9223372036854775807 : Int)) →
      ∀ (n24 : Int),
      (n24 = t) →
      ((-9223372036854775808 : Int) ≤ n24 ∧ n24 ≤ (9223372036854775807 : Int)) →
      ∀ (n27 : Int),
      (n27 = (↑l.length : Int)) →
      ((-9223372036854775808 : Int) ≤ n27 ∧ n27 ≤ (9223372036854775807 : Int)) →
      ((List.take (4 : Nat) (List.drop (0 : Nat) [n15, n21, n24, n27])).length ≤ (1000000 : Nat)) ∧
      ∀ (ys_30 : List UInt8),
      ∀ (n_31 : Nat),
      (ys_30 = sms (List.take (4 : Nat) (List.drop (0 : Nat) [n15, n21, n24, n27]))) →
      (ys_30.length = n_31) →
      (
       ∃ (v : Nat × Nat × List UInt8),
       ((0 : Nat) = (0 : Nat)) ∧
       (n_31 = v.snd.fst) ∧
       ((0 : Int) = (↑v.fst : Int)) ∧
       (s = s) ∧
       (m = m) ∧
       (t = t) ∧
       (l = l) ∧
       (ys_30 = v.snd.snd) ∧
       (v.fst ≤ l.length) ∧
       (l.length ≤ (8 : Nat)) ∧
       (v.snd.snd.length = v.snd.fst) ∧
       (v.snd.fst ≤ (100 : Nat) + (10 : Nat) * v.fst) ∧
       (v.snd.snd = sms [s, m, t, (↑l.length : Int)] ++ sms (List.take v.fst l)) ∧
       (allIn (70368744177664 : Int) l v.fst) ∧
       (
        ((0 : Int) ≤ s) ∧
        (s ≤ (65535 : Int))) ∧
       (m ≤ (3 : Int)) ∧
       ((0 : Int) ≤ t) ∧
       (t ≤ (1073741824 : Int))) ∧
      ∀ (v_34 : Nat × Nat × List UInt8),
      (v_34.fst ≤ l.length ∧ l.length ≤ (8 : Nat) ∧ v_34.snd.snd.length = v_34.snd.fst ∧ v_34.snd.fst ≤ (100 : Nat) + (10 : Nat) * v_34.fst ∧ v_34.snd.snd = sms [s, m, t, (↑l.length : Int)] ++ sms (List.take v_34.fst l) ∧ allIn (70368744177664 : Int) l v_34.fst ∧ ((0 : Int) ≤ s ∧ s ≤ (65535 : Int)) ∧ m ≤ (3 : Int) ∧ (0 : Int) ≤ t ∧ t ≤ (1073741824 : Int)) →
      ∀ (n36 : Int),
      (n36 = (↑l.length : Int)) →
      ((-9223372036854775808 : Int) ≤ n36 ∧ n36 ≤ (9223372036854775807 : Int)) →
      br (decide ((↑v_34.fst : Int) < n36))
       (((0 : Int) ≤ (↑v_34.fst : Int)) ∧
        ((↑v_34.fst : Int) < (↑l.length : Int)) ∧
        ∀ (n39 : Int),
        (n39 = l.getD (↑v_34.fst : Int).toNat (0 : Int)) →
        ((-9223372036854775808 : Int) ≤ n39 ∧ n39 ≤ (9223372036854775807 : Int)) →
        (
         (decide (n39 < (0 : Int)) = false) →
         ((0 : Int) ≤ (↑v_34.fst : Int)) ∧
         ((↑v_34.fst : Int) < (↑l.length : Int))) ∧
        ∀ (n43 : Int),
        (n43 = l.getD (↑v_34.fst : Int).toNat (0 : Int)) →
        br (bif decide (n39 < (0 : Int)) then true else decide (n43 > (70368744177664 : Int)))
         ((k (AV.tup [AV.nilsl, AV.int IntKind.i64 (2 : Int)]) [] []))
         (((0 : Int) ≤ (↑v_34.fst : Int)) ∧
          ((↑v_34.fst : Int) < (↑l.length : Int)) ∧
          ∀ (n45 : Int),
          (n45 = l.getD (↑v_34.fst : Int).toNat (0 : Int)) →
          ((-9223372036854775808 : Int) ≤ n45 ∧ n45 ≤ (9223372036854775807 : Int)) →
          ∀ (n48 : Int),
          (n48 = IntKind.u64.wrap n45) →
          ((0 : Int) ≤ n48 ∧ n48 ≤ (18446744073709551615 : Int)) →
          (
           ((0 : Int) ≤ n48) ∧
           (n48 ≤ (18446744073709551615 : Int))) ∧
          ∀ (ys_51 : List UInt8),
          ∀ (q_52 : Nat),
          (ys_51 = smallL n48.toNat) →
          (ys_51.length = q_52) →
          (q_52 ≤ (10 : Nat)) →
          ((v_34.snd.fst + q_52) * (1 : Nat) ≤ (140737488355328 : Nat)) ∧
          ∀ (z56 : List UInt8),
          (z56 = List.take v_34.snd.fst v_34.snd.snd ++ List.take q_52 (List.drop (0 : Nat) ys_51)) →
          ∀ (n58 : Int),
          (n58 = IntKind.i64.wrap ((↑v_34.fst : Int) + (1 : Int))) →
          ((-9223372036854775808 : Int) ≤ n58 ∧ n58 ≤ (9223372036854775807 : Int)) →
          ∃ (v' : Nat × Nat × List UInt8),
          ((0 : Nat) = (0 : Nat)) ∧
          (v_34.snd.fst + q_52 = v'.snd.fst) ∧
          (n58 = (↑v'.fst : Int)) ∧
          (s = s) ∧
          (m = m) ∧
          (t = t) ∧
          (l = l) ∧
          (z56 = v'.snd.snd) ∧
          (
           (v'.fst ≤ l.length) ∧
           (l.length ≤ (8 : Nat)) ∧
           (v'.snd.snd.length = v'.snd.fst) ∧
           (v'.snd.fst ≤ (100 : Nat) + (10 : Nat) * v'.fst) ∧
           (v'.snd.snd = sms [s, m, t, (↑l.length : Int)] ++ sms (List.take v'.fst l)) ∧
           (allIn (70368744177664 : Int) l v'.fst) ∧
           (
            ((0 : Int) ≤ s) ∧
            (s ≤ (65535 : Int))) ∧
           (m ≤ (3 : Int)) ∧
           ((0 : Int) ≤ t) ∧
           (t ≤ (1073741824 : Int))) ∧
          (l.length - v'.fst < l.length - v_34.fst)))
       ((k (AV.tup [AV.row (0 : Nat) (0 : Nat) (0 : Nat) v_34.snd.fst, AV.int IntKind.i64 (0 : Int)]) [] [Blk.row (0 : Nat) v_34.snd.snd])))) := by
  intro n1
  intro q1 -- n1 = s
  intro ⟨l1, u1⟩ -- (-9223372036854775808 : Int) ≤ n1 ∧ n1 ≤ (9223372036854775807 : Int)
  intro n4
  intro q4 -- n4 = s
  intro n6
  intro q6 -- n6 = m
  intro n8
  intro q8 -- n8 = t
  intro n10
  intro q10 -- n10 = t
  refine br_intro (fun c1 => ?_) (fun c1 => ?_) -- bif bif bif bif decide (n1 < (0 : Int)) then true else decide (n4 > (65535 : Int)) then true else decide (n6 > (3 : Int)) then true else decide (n8 < (0 : Int)) then true else decide (n10 > (1073741824 : Int))
  · -- yes
    simp at c1 -- (((n1 < (0 : Int) ∨ (65535 : Int) < n4) ∨ (3 : Int) < n6) ∨ n8 < (0 : Int)) ∨ (1073741824 : Int) < n10
    -- k (AV.tup [AV.nilsl, AV.int IntKind.i64 (2 : Int)]) [] []
    exact hk.1 2 (rE_2 (by omega)).symm (by decide)
  · -- no
    simp at c1 -- ((((0 : Int) ≤ n1 ∧ n4 ≤ (65535 : Int)) ∧ n6 ≤ (3 : Int)) ∧ (0 : Int) ≤ n8) ∧ n10 ≤ (1073741824 : Int)
    intro n12
    intro q12 -- n12 = (↑l.length : Int)
    intro ⟨l12, u12⟩ -- (-9223372036854775808 : Int) ≤ n12 ∧ n12 ≤ (9223372036854775807 : Int)
    refine brd (fun c2 => ?_) (fun c2 => ?_) -- decide (n12 > (8 : Int))
    · -- yes
      -- k (AV.tup [AV.nilsl, AV.int IntKind.i64 (4 : Int)]) [] []
      exact hk.1 4 (rE_4 (by omega) (by omega)).symm (by decide)
    · -- no
      intro n15
      intro q15 -- n15 = s
      intro ⟨l15, u15⟩ -- (-9223372036854775808 : Int) ≤ n15 ∧ n15 ≤ (9223372036854775807 : Int)
      intro n18
      intro q18 -- n18 = m
      intro ⟨l18, u18⟩ -- (0 : Int) ≤ n18 ∧ n18 ≤ (255 : Int)
      intro n21
      intro q21 -- n21 = IntKind.i64.wrap n18
      rw [IntKind.wrap_i64] at q21
      intro ⟨l21, u21⟩ -- (-9223372036854775808 : Int) ≤ n21 ∧ n21 ≤ (9223372036854775807 : Int)
      intro n24
      intro q24 -- n24 = t
      intro ⟨l24, u24⟩ -- (-9223372036854775808 : Int) ≤ n24 ∧ n24 ≤ (9223372036854775807 : Int)
      intro n27
      intro q27 -- n27 = (↑l.length : Int)
      intro ⟨l27, u27⟩ -- (-9223372036854775808 : Int) ≤ n27 ∧ n27 ≤ (9223372036854775807 : Int)
      have h3 : (List.take (4 : Nat) (List.drop (0 : Nat) [n15, n21, n24, n27])).length ≤ (1000000 : Nat) := by
        simp
      refine ⟨h3, ?_⟩
      intro ys_30
      intro n_31
      intro h4 -- ys_30 = sms (List.take (4 : Nat) (List.drop (0 : Nat) [n15, n21, n24, n27]))
      intro h5 -- ys_30.length = n_31
      refine ⟨?_, ?_⟩
      · -- left
        refine ⟨(Int.toNat (0 : Int), n_31, ys_30), ?_⟩
        refine ⟨by first | with_reducible rfl | rfl, ?_⟩ -- (0 : Nat) = (0 : Nat)
        refine ⟨by first | with_reducible rfl | rfl, ?_⟩ -- n_31 = n_31
        refine ⟨by show (0 : Int) = (↑(Int.toNat (0 : Int)) : Int); omega, ?_⟩ -- (0 : Int) = (↑(Int.toNat (0 : Int)) : Int)
        refine ⟨by first | with_reducible rfl | rfl, ?_⟩ -- s = s
        refine ⟨by first | with_reducible rfl | rfl, ?_⟩ -- m = m
        refine ⟨by first | with_reducible rfl | rfl, ?_⟩ -- t = t
        refine ⟨by first | with_reducible rfl | rfl, ?_⟩ -- l = l
        refine ⟨by first | with_reducible rfl | rfl, ?_⟩ -- ys_30 = ys_30
        refine ⟨by show Int.toNat (0 : Int) ≤ l.length; omega, ?_⟩ -- Int.toNat (0 : Int) ≤ l.length
        refine ⟨by show l.length ≤ (8 : Nat); omega, ?_⟩ -- l.length ≤ (8 : Nat)
        refine ⟨by show ys_30.length = n_31; assumption, ?_⟩ -- ys_30.length = n_31
        have h6 : n_31 ≤ (100 : Nat) + (10 : Nat) * Int.toNat (0 : Int) := by
          have := sms_le h4 h5 (k := 4) (by simp)
          omega
        refine ⟨h6, ?_⟩
        have h7 : ys_30 = sms [s, m, t, (↑l.length : Int)] ++ sms (List.take (Int.toNat (0 : Int)) l) := by
          rw [h4, show n15 = s by omega, show n21 = m by omega, show n24 = t by omega, show n27 = (l.length : Int) by omega]
          exact (List.append_nil _).symm
        refine ⟨h7, ?_⟩
        have h8 : allIn (70368744177664 : Int) l (Int.toNat (0 : Int)) := by
          exact ⟨fun x hx => by simp at hx⟩
        refine ⟨h8, ?_⟩
        refine ⟨by first | omega | (dsimp only; omega), ?_⟩ -- (0 : Int) ≤ s ∧ s ≤ (65535 : Int)
        refine ⟨by show m ≤ (3 : Int); omega, ?_⟩ -- m ≤ (3 : Int)
        refine ⟨by show (0 : Int) ≤ t; omega, ?_⟩ -- (0 : Int) ≤ t
        exact by show t ≤ (1073741824 : Int); omega -- t ≤ (1073741824 : Int)
      intro v_34
      intro h9 -- v_34.fst ≤ l.length ∧ l.length ≤ (8 : Nat) ∧ v_34.snd.snd.length = v_34.snd.fst ∧ v_34.snd.fst ≤ (100 : Nat) + (10 : Nat) * v_34.fst ∧ v_34.snd.snd = sms [s, m, t, (↑l.length : Int)] ++ sms (List.take v_34.fst l) ∧ allIn (70368744177664 : Int) l v_34.fst ∧ ((0 : Int) ≤ s ∧ s ≤ (65535 : Int)) ∧ m ≤ (3 : Int) ∧ (0 : Int) ≤ t ∧ t ≤ (1073741824 : Int)
      intro n36
      intro q36 -- n36 = (↑l.length : Int)
      intro ⟨l36, u36⟩ -- (-9223372036854775808 : Int) ≤ n36 ∧ n36 ≤ (9223372036854775807 : Int)
      refine brd (fun c10 => ?_) (fun c10 => ?_) -- decide ((↑v_34.fst : Int) < n36)
      · -- yes
        refine ⟨by first | omega | (dsimp only; omega), ?_⟩ -- (0 : Int) ≤ (↑v_34.fst : Int)
        refine ⟨by first | omega | (dsimp only; omega), ?_⟩ -- (↑v_34.fst : Int) < (↑l.length : Int)
        intro n39
        intro q39 -- n39 = l.getD (↑v_34.fst : Int).toNat (0 : Int)
        intro ⟨l39, u39⟩ -- (-9223372036854775808 : Int) ≤ n39 ∧ n39 ≤ (9223372036854775807 : Int)
        refine ⟨?_, ?_⟩
        · -- left
          intro h11 -- decide (n39 < (0 : Int)) = false
          simp at h11 -- (0 : Int) ≤ n39
          refine ⟨by first | omega | (dsimp only; omega), ?_⟩ -- (0 : Int) ≤ (↑v_34.fst : Int)
          exact by omega -- (↑v_34.fst : Int) < (↑l.length : Int)
        intro n43
        intro q43 -- n43 = l.getD (↑v_34.fst : Int).toNat (0 : Int)
        refine br_intro (fun c12 => ?_) (fun c12 => ?_) -- bif decide (n39 < (0 : Int)) then true else decide (n43 > (70368744177664 : Int))
        · -- yes
          simp at c12 -- n39 < (0 : Int) ∨ (70368744177664 : Int) < n43
          -- k (AV.tup [AV.nilsl, AV.int IntKind.i64 (2 : Int)]) [] []
          refine hk.1 2 (rE_l (by omega) (by omega) fun c => ?_).symm (by decide)
          rw [Int.toNat_natCast] at q39 q43
          have := c _ (mem_getD (l := l) (i := v_34.fst) (by omega))
          omega
        · -- no
          simp at c12 -- (0 : Int) ≤ n39 ∧ n43 ≤ (70368744177664 : Int)
          refine ⟨by first | omega | (dsimp only; omega), ?_⟩ -- (0 : Int) ≤ (↑v_34.fst : Int)
          refine ⟨by first | omega | (dsimp only; omega), ?_⟩ -- (↑v_34.fst : Int) < (↑l.length : Int)
          intro n45
          intro q45 -- n45 = l.getD (↑v_34.fst : Int).toNat (0 : Int)
          intro ⟨l45, u45⟩ -- (-9223372036854775808 : Int) ≤ n45 ∧ n45 ≤ (9223372036854775807 : Int)
          intro n48
          intro q48 -- n48 = IntKind.u64.wrap n45
          rw [IntKind.wrap_u64] at q48
          intro ⟨l48, u48⟩ -- (0 : Int) ≤ n48 ∧ n48 ≤ (18446744073709551615 : Int)
          refine ⟨by exact ⟨by assumption, by assumption⟩, ?_⟩ -- (0 : Int) ≤ n48 ∧ n48 ≤ (18446744073709551615 : Int)
          intro ys_51
          intro q_52
          intro h13 -- ys_51 = smallL n48.toNat
          intro h14 -- ys_51.length = q_52
          intro h15 -- q_52 ≤ (10 : Nat)
          refine ⟨by first | omega | (dsimp only; omega), ?_⟩ -- (v_34.snd.fst + q_52) * (1 : Nat) ≤ (140737488355328 : Nat)
          intro z56
          intro qz56 -- z56 = List.take v_34.snd.fst v_34.snd.snd ++ List.take q_52 (List.drop (0 : Nat) ys_51)
          intro n58
          intro q58 -- n58 = IntKind.i64.wrap ((↑v_34.fst : Int) + (1 : Int))
          rw [IntKind.wrap_i64] at q58
          intro ⟨l58, u58⟩ -- (-9223372036854775808 : Int) ≤ n58 ∧ n58 ≤ (9223372036854775807 : Int)
          refine ⟨(n58.toNat, v_34.snd.fst + q_52, z56), ?_⟩
          refine ⟨by first | with_reducible rfl | rfl, ?_⟩ -- (0 : Nat) = (0 : Nat)
          refine ⟨by first | with_reducible rfl | rfl, ?_⟩ -- v_34.snd.fst + q_52 = v_34.snd.fst + q_52
          refine ⟨by show n58 = (↑n58.toNat : Int); omega, ?_⟩ -- n58 = (↑n58.toNat : Int)
          refine ⟨by first | with_reducible rfl | rfl, ?_⟩ -- s = s
          refine ⟨by first | with_reducible rfl | rfl, ?_⟩ -- m = m
          refine ⟨by first | with_reducible rfl | rfl, ?_⟩ -- t = t
          refine ⟨by first | with_reducible rfl | rfl, ?_⟩ -- l = l
          refine ⟨by first | with_reducible rfl | rfl, ?_⟩ -- z56 = z56
          refine ⟨?_, ?_⟩
          · -- left
            refine ⟨by show n58.toNat ≤ l.length; omega, ?_⟩ -- n58.toNat ≤ l.length
            refine ⟨by show l.length ≤ (8 : Nat); omega, ?_⟩ -- l.length ≤ (8 : Nat)
            have h16 : z56.length = v_34.snd.fst + q_52 := by
              rw [qz56, List.length_append, List.length_take, List.length_take, List.length_drop]; omega
            refine ⟨h16, ?_⟩
            refine ⟨by show v_34.snd.fst + q_52 ≤ (100 : Nat) + (10 : Nat) * n58.toNat; omega, ?_⟩ -- v_34.snd.fst + q_52 ≤ (100 : Nat) + (10 : Nat) * n58.toNat
            have h17 : z56 = sms [s, m, t, (↑l.length : Int)] ++ sms (List.take n58.toNat l) := by
              have se : ys_51 = smI (l.getD v_34.fst 0) := by unfold smI; rw [h13, q48, q45, Int.toNat_natCast]
              rw [show n58.toNat = v_34.fst + 1 by omega, sms_step (by omega), ← List.append_assoc, ← h9.2.2.2.2.1, qz56, ← h14, List.drop_zero, List.take_length, List.take_of_length_le (by omega), se]
            refine ⟨h17, ?_⟩
            have h18 : allIn (70368744177664 : Int) l n58.toNat := by
              rw [Int.toNat_natCast] at q39 q43
              exact allin_step h9.2.2.2.2.2.1 (by omega) (by omega) (by omega)
            refine ⟨h18, ?_⟩
            refine ⟨by first | omega | (dsimp only; omega), ?_⟩ -- (0 : Int) ≤ s ∧ s ≤ (65535 : Int)
            refine ⟨by show m ≤ (3 : Int); omega, ?_⟩ -- m ≤ (3 : Int)
            refine ⟨by show (0 : Int) ≤ t; omega, ?_⟩ -- (0 : Int) ≤ t
            exact by show t ≤ (1073741824 : Int); omega -- t ≤ (1073741824 : Int)
          exact by show l.length - n58.toNat < l.length - v_34.fst; omega -- l.length - n58.toNat < l.length - v_34.fst
      · -- no
        -- k (AV.tup [AV.row (0 : Nat) (0 : Nat) (0 : Nat) v_34.snd.fst, AV.int IntKind.i64 (0 : Int)]) [] [Blk.row (0 : Nat) v_34.snd.snd]
        have E : rE s m t l = 0 := rE_0.2 ⟨h9.2.2.2.2.2.2.1, h9.2.2.2.2.2.2.2.1, h9.2.2.2.2.2.2.2.2, h9.2.1, allin_end h9.2.2.2.2.2.1 (by omega)⟩
        exact hk.2 E _ _ (by unfold rO; rw [if_pos E, h9.2.2.2.2.1, List.take_of_length_le (by omega)]) h9.2.2.1

theorem rreport_ok : Holds Try.prog 24 reportS := by
  refine fn_sound (env := mkEnv M2) (tab_ok M2_ok) Try.func24 Try.call24 fun args k h => ?_
  match args, h with
  | [.agg [.int .i64 s, .int .u8 m, .int .i64 t, .sl 1 l]], h => exact ⟨by kernel_rfl, rreportLoops s m t l, fun _ _ => none, .cast (by kernel_rfl) (rreport_vc s m t l h.1 k h.2)⟩
set_option maxHeartbeats 2000000 in
theorem samep_vc (cya : Int) (ofa : Int) (wa : List Int) (cyb : Int) (ofb : Int) (wb : List Int) (k : AV → List (Option Blk) → List Blk → Prop) (hk : ∀ (r : Bool), (r = true ↔ cya = cyb ∧ ofa = ofb ∧ wa = wb) → k (AV.bool r) [] []) :
  ∀ (n1 : Int),
  (n1 = cya) →
  ((-9223372036854775808 : Int) ≤ n1 ∧ n1 ≤ (9223372036854775807 : Int)) →
  ∀ (n4 : Int),
  (n4 = cyb) →
  ((-9223372036854775808 : Int) ≤ n4 ∧ n4 ≤ (9223372036854775807 : Int)) →
  ∀ (n7 : Int),
  (n7 = ofa) →
  ∀ (n9 : Int),
  (n9 = ofb) →
  br (bif n1 == n4 then n7 == n9 else false)
   (∀ (r_11 : Bool),
    (r_11 = true ↔ wa = wb) →
    (k (AV.bool (bif true then r_11 else false)) [] []))
   ((false = false) ∧
    (k (AV.bool false) [] [])) := by
  intro n1
  intro q1 -- n1 = cya
  intro ⟨l1, u1⟩ -- (-9223372036854775808 : Int) ≤ n1 ∧ n1 ≤ (9223372036854775807 : Int)
  intro n4
  intro q4 -- n4 = cyb
  intro ⟨l4, u4⟩ -- (-9223372036854775808 : Int) ≤ n4 ∧ n4 ≤ (9223372036854775807 : Int)
  intro n7
  intro q7 -- n7 = ofa
  intro n9
  intro q9 -- n9 = ofb
  refine br_intro (fun c1 => ?_) (fun c1 => ?_) -- bif n1 == n4 then n7 == n9 else false
  · -- yes
    simp at c1 -- n1 = n4 ∧ n7 = n9
    intro r_11
    intro h2 -- r_11 = true ↔ wa = wb
    -- k (AV.bool (bif true then r_11 else false)) [] []
    refine hk _ ?_
    show r_11 = true ↔ _
    rw [h2]
    exact ⟨fun e => ⟨by omega, by omega, e⟩, fun e => e.2.2⟩
  · -- no
    simp at c1 -- n1 = n4 → ¬n7 = n9
    refine ⟨by with_reducible rfl, ?_⟩ -- false = false
    -- k (AV.bool false) [] []
    exact hk false ⟨fun c => (by cases c), fun e => absurd (show n7 = n9 by omega) (c1 (by omega))⟩

theorem samep_ok : Holds Try.prog 43 samePS := by
  refine fn_sound (env := mkEnv M2) (tab_ok M2_ok) Try.func43 Try.call43 fun args k h => ?_
  match args, h with
  | [.agg [.int .i64 cya, .int .i64 ofa, .sl 1 wa], .agg [.int .i64 cyb, .int .i64 ofb, .sl 1 wb]], h => exact ⟨by kernel_rfl, fun _ _ => none, fun _ _ => none, .cast (by kernel_rfl) (samep_vc cya ofa wa cyb ofb wb k h)⟩
set_option maxHeartbeats 2000000 in
theorem samer_vc (sia : Int) (cya : Int) (ofa : Int) (wa : List Int) (sib : Int) (cyb : Int) (ofb : Int) (wb : List Int) (k : AV → List (Option Blk) → List Blk → Prop) (hk : ∀ (r : Bool), (r = true ↔ sia = sib ∧ cya = cyb ∧ ofa = ofb ∧ wa = wb) → k (AV.bool r) [] []) :
  ∀ (n1 : Int),
  (n1 = sia) →
  ((-9223372036854775808 : Int) ≤ n1 ∧ n1 ≤ (9223372036854775807 : Int)) →
  ∀ (n4 : Int),
  (n4 = sib) →
  ((-9223372036854775808 : Int) ≤ n4 ∧ n4 ≤ (9223372036854775807 : Int)) →
  ∀ (n7 : Int),
  (n7 = cya) →
  ∀ (n9 : Int),
  (n9 = cyb) →
  ∀ (n11 : Int),
  (n11 = ofa) →
  ∀ (n13 : Int),
  (n13 = ofb) →
  ∀ (n15 : Int),
  (n15 = (↑wa.length : Int)) →
  ∀ (n17 : Int),
  (n17 = (↑wb.length : Int)) →
  br (bif bif bif n1 != n4 then true else n7 != n9 then true else n11 != n13 then true else n15 != n17)
   ((k (AV.bool false) [] []))
   ((
     ∃ (v : Nat),
     ((0 : Int) = (↑v : Int)) ∧
     (sia = sia) ∧
     (cya = cya) ∧
     (ofa = ofa) ∧
     (wa = wa) ∧
     (sib = sib) ∧
     (cyb = cyb) ∧
     (ofb = ofb) ∧
     (wb = wb) ∧
     (v ≤ wa.length) ∧
     (wa.length = wb.length) ∧
     (
      (sia = sib) ∧
      (cya = cyb) ∧
      (ofa = ofb)) ∧
     (eqI wa wb v)) ∧
    ∀ (v_19 : Nat),
    (v_19 ≤ wa.length ∧ wa.length = wb.length ∧ (sia = sib ∧ cya = cyb ∧ ofa = ofb) ∧ eqI wa wb v_19) →
    ∀ (n21 : Int),
    (n21 = (↑wa.length : Int)) →
    ((-9223372036854775808 : Int) ≤ n21 ∧ n21 ≤ (9223372036854775807 : Int)) →
    br (decide ((↑v_19 : Int) < n21))
     (((0 : Int) ≤ (↑v_19 : Int)) ∧
      ((↑v_19 : Int) < (↑wa.length : Int)) ∧
      ∀ (n24 : Int),
      (n24 = wa.getD (↑v_19 : Int).toNat (0 : Int)) →
      ((-9223372036854775808 : Int) ≤ n24 ∧ n24 ≤ (9223372036854775807 : Int)) →
      ((0 : Int) ≤ (↑v_19 : Int)) ∧
      ((↑v_19 : Int) < (↑wb.length : Int)) ∧
      ∀ (n27 : Int),
      (n27 = wb.getD (↑v_19 : Int).toNat (0 : Int)) →
      ((-9223372036854775808 : Int) ≤ n27 ∧ n27 ≤ (9223372036854775807 : Int)) →
      br (n24 != n27)
       ((k (AV.bool false) [] []))
       (∀ (n30 : Int),
        (n30 = IntKind.i64.wrap ((↑v_19 : Int) + (1 : Int))) →
        ((-9223372036854775808 : Int) ≤ n30 ∧ n30 ≤ (9223372036854775807 : Int)) →
        ∃ (v' : Nat),
        (n30 = (↑v' : Int)) ∧
        (sia = sia) ∧
        (cya = cya) ∧
        (ofa = ofa) ∧
        (wa = wa) ∧
        (sib = sib) ∧
        (cyb = cyb) ∧
        (ofb = ofb) ∧
        (wb = wb) ∧
        (
         (v' ≤ wa.length) ∧
         (wa.length = wb.length) ∧
         (
          (sia = sib) ∧
          (cya = cyb) ∧
          (ofa = ofb)) ∧
         (eqI wa wb v')) ∧
        (wa.length - v' < wa.length - v_19)))
     ((k (AV.bool true) [] []))) := by
  intro n1
  intro q1 -- n1 = sia
  intro ⟨l1, u1⟩ -- (-9223372036854775808 : Int) ≤ n1 ∧ n1 ≤ (9223372036854775807 : Int)
  intro n4
  intro q4 -- n4 = sib
  intro ⟨l4, u4⟩ -- (-9223372036854775808 : Int) ≤ n4 ∧ n4 ≤ (9223372036854775807 : Int)
  intro n7
  intro q7 -- n7 = cya
  intro n9
  intro q9 -- n9 = cyb
  intro n11
  intro q11 -- n11 = ofa
  intro n13
  intro q13 -- n13 = ofb
  intro n15
  intro q15 -- n15 = (↑wa.length : Int)
  intro n17
  intro q17 -- n17 = (↑wb.length : Int)
  refine br_intro (fun c1 => ?_) (fun c1 => ?_) -- bif bif bif n1 != n4 then true else n7 != n9 then true else n11 != n13 then true else n15 != n17
  · -- yes
    simp at c1 -- ((¬n1 = n4 ∨ ¬n7 = n9) ∨ ¬n11 = n13) ∨ ¬n15 = n17
    -- k (AV.bool false) [] []
    refine hk false ⟨fun c => (by cases c), fun e => ?_⟩
    obtain ⟨e1, e2, e3, e4⟩ := e
    subst e4
    exfalso
    omega
  · -- no
    simp at c1 -- ((n1 = n4 ∧ n7 = n9) ∧ n11 = n13) ∧ n15 = n17
    refine ⟨?_, ?_⟩
    · -- left
      refine ⟨Int.toNat (0 : Int), ?_⟩
      refine ⟨by show (0 : Int) = (↑(Int.toNat (0 : Int)) : Int); omega, ?_⟩ -- (0 : Int) = (↑(Int.toNat (0 : Int)) : Int)
      refine ⟨by first | with_reducible rfl | rfl, ?_⟩ -- sia = sia
      refine ⟨by first | with_reducible rfl | rfl, ?_⟩ -- cya = cya
      refine ⟨by first | with_reducible rfl | rfl, ?_⟩ -- ofa = ofa
      refine ⟨by first | with_reducible rfl | rfl, ?_⟩ -- wa = wa
      refine ⟨by first | with_reducible rfl | rfl, ?_⟩ -- sib = sib
      refine ⟨by first | with_reducible rfl | rfl, ?_⟩ -- cyb = cyb
      refine ⟨by first | with_reducible rfl | rfl, ?_⟩ -- ofb = ofb
      refine ⟨by first | with_reducible rfl | rfl, ?_⟩ -- wb = wb
      refine ⟨by show Int.toNat (0 : Int) ≤ wa.length; omega, ?_⟩ -- Int.toNat (0 : Int) ≤ wa.length
      refine ⟨by show wa.length = wb.length; omega, ?_⟩ -- wa.length = wb.length
      refine ⟨?_, ?_⟩
      · -- left
        refine ⟨by show sia = sib; omega, ?_⟩ -- sia = sib
        refine ⟨by show cya = cyb; omega, ?_⟩ -- cya = cyb
        exact by show ofa = ofb; omega -- ofa = ofb
      -- eqI wa wb (Int.toNat (0 : Int))
      exact ⟨rfl⟩
    intro v_19
    intro h2 -- v_19 ≤ wa.length ∧ wa.length = wb.length ∧ (sia = sib ∧ cya = cyb ∧ ofa = ofb) ∧ eqI wa wb v_19
    intro n21
    intro q21 -- n21 = (↑wa.length : Int)
    intro ⟨l21, u21⟩ -- (-9223372036854775808 : Int) ≤ n21 ∧ n21 ≤ (9223372036854775807 : Int)
    refine brd (fun c3 => ?_) (fun c3 => ?_) -- decide ((↑v_19 : Int) < n21)
    · -- yes
      refine ⟨by first | omega | (dsimp only; omega), ?_⟩ -- (0 : Int) ≤ (↑v_19 : Int)
      refine ⟨by first | omega | (dsimp only; omega), ?_⟩ -- (↑v_19 : Int) < (↑wa.length : Int)
      intro n24
      intro q24 -- n24 = wa.getD (↑v_19 : Int).toNat (0 : Int)
      intro ⟨l24, u24⟩ -- (-9223372036854775808 : Int) ≤ n24 ∧ n24 ≤ (9223372036854775807 : Int)
      refine ⟨by first | omega | (dsimp only; omega), ?_⟩ -- (0 : Int) ≤ (↑v_19 : Int)
      refine ⟨by first | omega | (dsimp only; omega), ?_⟩ -- (↑v_19 : Int) < (↑wb.length : Int)
      intro n27
      intro q27 -- n27 = wb.getD (↑v_19 : Int).toNat (0 : Int)
      intro ⟨l27, u27⟩ -- (-9223372036854775808 : Int) ≤ n27 ∧ n27 ≤ (9223372036854775807 : Int)
      refine br_intro (fun c4 => ?_) (fun c4 => ?_) -- n24 != n27
      · -- yes
        simp at c4 -- ¬n24 = n27
        -- k (AV.bool false) [] []
        refine hk false ⟨fun c => (by cases c), fun e => ?_⟩
        exact absurd (by rw [q24, q27, e.2.2.2]) c4
      · -- no
        simp at c4 -- n24 = n27
        intro n30
        intro q30 -- n30 = IntKind.i64.wrap ((↑v_19 : Int) + (1 : Int))
        rw [IntKind.wrap_i64] at q30
        intro ⟨l30, u30⟩ -- (-9223372036854775808 : Int) ≤ n30 ∧ n30 ≤ (9223372036854775807 : Int)
        refine ⟨n30.toNat, ?_⟩
        refine ⟨by show n30 = (↑n30.toNat : Int); omega, ?_⟩ -- n30 = (↑n30.toNat : Int)
        refine ⟨by first | with_reducible rfl | rfl, ?_⟩ -- sia = sia
        refine ⟨by first | with_reducible rfl | rfl, ?_⟩ -- cya = cya
        refine ⟨by first | with_reducible rfl | rfl, ?_⟩ -- ofa = ofa
        refine ⟨by first | with_reducible rfl | rfl, ?_⟩ -- wa = wa
        refine ⟨by first | with_reducible rfl | rfl, ?_⟩ -- sib = sib
        refine ⟨by first | with_reducible rfl | rfl, ?_⟩ -- cyb = cyb
        refine ⟨by first | with_reducible rfl | rfl, ?_⟩ -- ofb = ofb
        refine ⟨by first | with_reducible rfl | rfl, ?_⟩ -- wb = wb
        refine ⟨?_, ?_⟩
        · -- left
          refine ⟨by show n30.toNat ≤ wa.length; omega, ?_⟩ -- n30.toNat ≤ wa.length
          refine ⟨by show wa.length = wb.length; omega, ?_⟩ -- wa.length = wb.length
          refine ⟨?_, ?_⟩
          · -- left
            refine ⟨by show sia = sib; omega, ?_⟩ -- sia = sib
            refine ⟨by show cya = cyb; omega, ?_⟩ -- cya = cyb
            exact by show ofa = ofb; omega -- ofa = ofb
          -- eqI wa wb n30.toNat
          rw [Int.toNat_natCast] at q24 q27
          exact eqi_step h2.2.2.2 (by omega) (by omega) (by omega) (by rw [← q24, ← q27]; exact c4)
        exact by show wa.length - n30.toNat < wa.length - v_19; omega -- wa.length - n30.toNat < wa.length - v_19
    · -- no
      -- k (AV.bool true) [] []
      have e := h2.2.2.2.e
      rw [List.take_of_length_le (by omega), List.take_of_length_le (by omega)] at e
      exact hk true ⟨fun _ => ⟨h2.2.2.1.1, h2.2.2.1.2.1, h2.2.2.1.2.2, e⟩, fun _ => rfl⟩

theorem samer_ok : Holds Try.prog 30 sameRS := by
  refine fn_sound (env := mkEnv T0) (tab_ok T0_ok) Try.func30 Try.call30 fun args k h => ?_
  match args, h with
  | [.agg [.int .i64 sia, .int .u8 cya, .int .i64 ofa, .sl 1 wa], .agg [.int .i64 sib, .int .u8 cyb, .int .i64 ofb, .sl 1 wb]], h => exact ⟨by kernel_rfl, sameRLoops sia cya ofa wa sib cyb ofb wb, fun _ _ => none, .cast (by kernel_rfl) (samer_vc sia cya ofa wa sib cyb ofb wb k h)⟩
theorem M3_ok : TabOk Try.prog M3 := ⟨whole_up whole_ok, whole_up rwhole_ok, sited_ok, put_ok, sms20_ok, samep_ok, trivial⟩
set_option maxHeartbeats 2000000 in
theorem command_vc (s : Int) (c : Int) (o : Int) (l : List Int) (hl : l.length ≤ (1000000 : Nat)) (k : AV → List (Option Blk) → List Blk → Prop) (hk : (∀ (e : Int), e = cE s c o l → e ≠ (0 : Int) → k (AV.tup [AV.nilsl, AV.int IntKind.i64 e]) [] []) ∧ (cE s c o l = (0 : Int) → ∀ (ys : List UInt8) (n : Nat), ys = cO s c o l → ys.length = n → k (AV.tup [AV.row (0 : Nat) (0 : Nat) (0 : Nat) n, AV.int IntKind.i64 (0 : Int)]) [] [Blk.row (0 : Nat) ys])) :
  ∀ (n1 : Int),
  (n1 = s) →
  ((-9223372036854775808 : Int) ≤ n1 ∧ n1 ≤ (9223372036854775807 : Int)) →
  (
   ((-9223372036854775808 : Int) ≤ n1) ∧
   (n1 ≤ (9223372036854775807 : Int))) ∧
  ∀ (r_4 : Bool),
  (r_4 = true ↔ (0 : Int) ≤ n1 ∧ n1 ≤ (65535 : Int)) →
  br (!r_4)
   ((k (AV.tup [AV.nilsl, AV.int IntKind.i64 (2 : Int)]) [] []))
   (∀ (n6 : Int),
    (n6 = c) →
    ((-9223372036854775808 : Int) ≤ n6 ∧ n6 ≤ (9223372036854775807 : Int)) →
    ∀ (n9 : Int),
    (n9 = o) →
    ((-9223372036854775808 : Int) ≤ n9 ∧ n9 ≤ (9223372036854775807 : Int)) →
    ({ cycle := n6, offset := n9, splits := l : Plan }.splits.length ≤ (1000000 : Nat)) ∧
    ∀ (e_12 : Int),
    ∀ (ys_13 : List UInt8),
    ∀ (n_14 : Nat),
    (e_12 = wE { cycle := n6, offset := n9, splits := l : Plan }.cycle { cycle := n6, offset := n9, splits := l : Plan }.offset { cycle := n6, offset := n9, splits := l : Plan }.splits) →
    (ys_13.length = n_14) →
    br (e_12 != (0 : Int))
     ((k (AV.tup [AV.nilsl, AV.int IntKind.i64 e_12]) [] []))
     (∀ (n17 : Int),
      (n17 = s) →
      ((-9223372036854775808 : Int) ≤ n17 ∧ n17 ≤ (9223372036854775807 : Int)) →
      ∀ (n20 : Int),
      (n20 = c) →
      ((-9223372036854775808 : Int) ≤ n20 ∧ n20 ≤ (9223372036854775807 : Int)) →
      ∀ (n23 : Int),
      (n23 = o) →
      ((-9223372036854775808 : Int) ≤ n23 ∧ n23 ≤ (9223372036854775807 : Int)) →
      ∀ (n26 : Int),
      (n26 = (↑l.length : Int)) →
      ((-9223372036854775808 : Int) ≤ n26 ∧ n26 ≤ (9223372036854775807 : Int)) →
      (
       (
        ((List.take (4 : Nat) (List.drop (0 : Nat) [n17, n20, n23, n26])).length ≤ (1000000 : Nat)) ∧
        ∀ (ys_29 : List UInt8),
        ∀ (n_30 : Nat),
        (ys_29 = sms (List.take (4 : Nat) (List.drop (0 : Nat) [n17, n20, n23, n26]))) →
        (ys_29.length = n_30) →
        (
         (n_30 = ys_29.length) ∧
         (n_30 ≤ (1000000 : Nat)) ∧
         (l.length ≤ (1000000 : Nat))) ∧
        ∀ (ys_33 : List UInt8),
        ∀ (n_34 : Nat),
        (ys_33 = ys_29 ++ sms l) →
        (ys_33.length = n_34) →
        (k (AV.tup [AV.row (0 : Nat) (0 : Nat) (0 : Nat) n_34, AV.int IntKind.i64 (0 : Int)]) [] [Blk.row (0 : Nat) ys_33])) ∧
       (
        ((List.take (4 : Nat) (List.drop (0 : Nat) [n17, n20, n23, n26])).length ≤ (1000000 : Nat)) ∧
        ∀ (ys_37 : List UInt8),
        ∀ (n_38 : Nat),
        (ys_37 = sms (List.take (4 : Nat) (List.drop (0 : Nat) [n17, n20, n23, n26]))) →
        (ys_37.length = n_38) →
        (
         (n_38 = ys_37.length) ∧
         (n_38 ≤ (1000000 : Nat)) ∧
         (l.length ≤ (1000000 : Nat))) ∧
        ∀ (ys_41 : List UInt8),
        ∀ (n_42 : Nat),
        (ys_41 = ys_37 ++ sms l) →
        (ys_41.length = n_42) →
        (k (AV.tup [AV.row (0 : Nat) (0 : Nat) (0 : Nat) n_42, AV.int IntKind.i64 (0 : Int)]) [] [Blk.row (0 : Nat) ys_41])) ∧
       ((List.take (4 : Nat) (List.drop (0 : Nat) [n17, n20, n23, n26])).length ≤ (1000000 : Nat)) ∧
       ∀ (ys_45 : List UInt8),
       ∀ (n_46 : Nat),
       (ys_45 = sms (List.take (4 : Nat) (List.drop (0 : Nat) [n17, n20, n23, n26]))) →
       (ys_45.length = n_46) →
       (
        (n_46 = ys_45.length) ∧
        (n_46 ≤ (1000000 : Nat)) ∧
        (l.length ≤ (1000000 : Nat))) ∧
       ∀ (ys_49 : List UInt8),
       ∀ (n_50 : Nat),
       (ys_49 = ys_45 ++ sms l) →
       (ys_49.length = n_50) →
       (k (AV.tup [AV.row (0 : Nat) (0 : Nat) (0 : Nat) n_50, AV.int IntKind.i64 (0 : Int)]) [] [Blk.row (0 : Nat) ys_49])) ∧
      (
       (
        ((List.take (4 : Nat) (List.drop (0 : Nat) [n17, n20, n23, n26])).length ≤ (1000000 : Nat)) ∧
        ∀ (ys_53 : List UInt8),
        ∀ (n_54 : Nat),
        (ys_53 = sms (List.take (4 : Nat) (List.drop (0 : Nat) [n17, n20, n23, n26]))) →
        (ys_53.length = n_54) →
        (
         (n_54 = ys_53.length) ∧
         (n_54 ≤ (1000000 : Nat)) ∧
         (l.length ≤ (1000000 : Nat))) ∧
        ∀ (ys_57 : List UInt8),
        ∀ (n_58 : Nat),
        (ys_57 = ys_53 ++ sms l) →
        (ys_57.length = n_58) →
        (k (AV.tup [AV.row (0 : Nat) (0 : Nat) (0 : Nat) n_58, AV.int IntKind.i64 (0 : Int)]) [] [Blk.row (0 : Nat) ys_57])) ∧
       ((List.take (4 : Nat) (List.drop (0 : Nat) [n17, n20, n23, n26])).length ≤ (1000000 : Nat)) ∧
       ∀ (ys_61 : List UInt8),
       ∀ (n_62 : Nat),
       (ys_61 = sms (List.take (4 : Nat) (List.drop (0 : Nat) [n17, n20, n23, n26]))) →
       (ys_61.length = n_62) →
       (
        (n_62 = ys_61.length) ∧
        (n_62 ≤ (1000000 : Nat)) ∧
        (l.length ≤ (1000000 : Nat))) ∧
       ∀ (ys_65 : List UInt8),
       ∀ (n_66 : Nat),
       (ys_65 = ys_61 ++ sms l) →
       (ys_65.length = n_66) →
       (k (AV.tup [AV.row (0 : Nat) (0 : Nat) (0 : Nat) n_66, AV.int IntKind.i64 (0 : Int)]) [] [Blk.row (0 : Nat) ys_65])) ∧
      ((List.take (4 : Nat) (List.drop (0 : Nat) [n17, n20, n23, n26])).length ≤ (1000000 : Nat)) ∧
      ∀ (ys_69 : List UInt8),
      ∀ (n_70 : Nat),
      (ys_69 = sms (List.take (4 : Nat) (List.drop (0 : Nat) [n17, n20, n23, n26]))) →
      (ys_69.length = n_70) →
      (
       (n_70 = ys_69.length) ∧
       (n_70 ≤ (1000000 : Nat)) ∧
       (l.length ≤ (1000000 : Nat))) ∧
      ∀ (ys_73 : List UInt8),
      ∀ (n_74 : Nat),
      (ys_73 = ys_69 ++ sms l) →
      (ys_73.length = n_74) →
      (k (AV.tup [AV.row (0 : Nat) (0 : Nat) (0 : Nat) n_74, AV.int IntKind.i64 (0 : Int)]) [] [Blk.row (0 : Nat) ys_73]))) := by
  intro n1
  intro q1 -- n1 = s
  intro ⟨l1, u1⟩ -- (-9223372036854775808 : Int) ≤ n1 ∧ n1 ≤ (9223372036854775807 : Int)
  refine ⟨by exact ⟨by assumption, by assumption⟩, ?_⟩ -- (-9223372036854775808 : Int) ≤ n1 ∧ n1 ≤ (9223372036854775807 : Int)
  intro r_4
  intro h1 -- r_4 = true ↔ (0 : Int) ≤ n1 ∧ n1 ≤ (65535 : Int)
  refine br_intro (fun c2 => ?_) (fun c2 => ?_) -- !r_4
  · -- yes
    simp at c2 -- r_4 = false
    -- k (AV.tup [AV.nilsl, AV.int IntKind.i64 (2 : Int)]) [] []
    have bb : ¬ (0 ≤ n1 ∧ n1 ≤ 65535) := fun c => (by rw [h1.2 c] at c2; cases c2)
    exact hk.1 2 (cE_2 (by omega)).symm (by decide)
  · -- no
    simp at c2 -- r_4 = true
    intro n6
    intro q6 -- n6 = c
    intro ⟨l6, u6⟩ -- (-9223372036854775808 : Int) ≤ n6 ∧ n6 ≤ (9223372036854775807 : Int)
    intro n9
    intro q9 -- n9 = o
    intro ⟨l9, u9⟩ -- (-9223372036854775808 : Int) ≤ n9 ∧ n9 ≤ (9223372036854775807 : Int)
    refine ⟨by assumption, ?_⟩ -- { cycle := n6, offset := n9, splits := l : Plan }.splits.length ≤ (1000000 : Nat)
    intro e_12
    intro ys_13
    intro n_14
    intro h3 -- e_12 = wE { cycle := n6, offset := n9, splits := l : Plan }.cycle { cycle := n6, offset := n9, splits := l : Plan }.offset { cycle := n6, offset := n9, splits := l : Plan }.splits
    intro h4 -- ys_13.length = n_14
    refine br_intro (fun c5 => ?_) (fun c5 => ?_) -- e_12 != (0 : Int)
    · -- yes
      simp at c5 -- ¬e_12 = (0 : Int)
      -- k (AV.tup [AV.nilsl, AV.int IntKind.i64 e_12]) [] []
      have gg := h1.1 c2
      subst q6 q9
      exact hk.1 e_12 (h3.trans (cE_w (by omega)).symm) c5
    · -- no
      simp at c5 -- e_12 = (0 : Int)
      intro n17
      intro q17 -- n17 = s
      intro ⟨l17, u17⟩ -- (-9223372036854775808 : Int) ≤ n17 ∧ n17 ≤ (9223372036854775807 : Int)
      intro n20
      intro q20 -- n20 = c
      intro ⟨l20, u20⟩ -- (-9223372036854775808 : Int) ≤ n20 ∧ n20 ≤ (9223372036854775807 : Int)
      intro n23
      intro q23 -- n23 = o
      intro ⟨l23, u23⟩ -- (-9223372036854775808 : Int) ≤ n23 ∧ n23 ≤ (9223372036854775807 : Int)
      intro n26
      intro q26 -- n26 = (↑l.length : Int)
      intro ⟨l26, u26⟩ -- (-9223372036854775808 : Int) ≤ n26 ∧ n26 ≤ (9223372036854775807 : Int)
      refine ⟨?_, ?_⟩
      · -- left
        refine ⟨?_, ?_⟩
        · -- left
          have h6 : (List.take (4 : Nat) (List.drop (0 : Nat) [n17, n20, n23, n26])).length ≤ (1000000 : Nat) := by
            simp
          refine ⟨h6, ?_⟩
          intro ys_29
          intro n_30
          intro h7 -- ys_29 = sms (List.take (4 : Nat) (List.drop (0 : Nat) [n17, n20, n23, n26]))
          intro h8 -- ys_29.length = n_30
          refine ⟨?_, ?_⟩
          · -- left
            refine ⟨by first | omega | (dsimp only; omega), ?_⟩ -- n_30 = ys_29.length
            have h9 : n_30 ≤ (1000000 : Nat) := by
              have := sms_le h7 h8 (k := 4) (by simp)
              omega
            refine ⟨h9, ?_⟩
            exact by assumption -- l.length ≤ (1000000 : Nat)
          intro ys_33
          intro n_34
          intro h10 -- ys_33 = ys_29 ++ sms l
          intro h11 -- ys_33.length = n_34
          -- k (AV.tup [AV.row (0 : Nat) (0 : Nat) (0 : Nat) n_34, AV.int IntKind.i64 (0 : Int)]) [] [Blk.row (0 : Nat) ys_33]
          have gg := h1.1 c2
          have E : cE s c o l = 0 := by
            subst q6 q9
            rw [cE_w (by omega)]
            exact h3.symm.trans c5
          exact hk.2 E _ _ (by unfold cO; rw [if_pos E, h10, h7, q17, q20, q23, q26]; rfl) h11
        refine ⟨?_, ?_⟩
        · -- left
          have h12 : (List.take (4 : Nat) (List.drop (0 : Nat) [n17, n20, n23, n26])).length ≤ (1000000 : Nat) := by
            simp
          refine ⟨h12, ?_⟩
          intro ys_37
          intro n_38
          intro h13 -- ys_37 = sms (List.take (4 : Nat) (List.drop (0 : Nat) [n17, n20, n23, n26]))
          intro h14 -- ys_37.length = n_38
          refine ⟨?_, ?_⟩
          · -- left
            refine ⟨by first | omega | (dsimp only; omega), ?_⟩ -- n_38 = ys_37.length
            have h15 : n_38 ≤ (1000000 : Nat) := by
              have := sms_le h13 h14 (k := 4) (by simp)
              omega
            refine ⟨h15, ?_⟩
            exact by assumption -- l.length ≤ (1000000 : Nat)
          intro ys_41
          intro n_42
          intro h16 -- ys_41 = ys_37 ++ sms l
          intro h17 -- ys_41.length = n_42
          -- k (AV.tup [AV.row (0 : Nat) (0 : Nat) (0 : Nat) n_42, AV.int IntKind.i64 (0 : Int)]) [] [Blk.row (0 : Nat) ys_41]
          have gg := h1.1 c2
          have E : cE s c o l = 0 := by
            subst q6 q9
            rw [cE_w (by omega)]
            exact h3.symm.trans c5
          exact hk.2 E _ _ (by unfold cO; rw [if_pos E, h16, h13, q17, q20, q23, q26]; rfl) h17
        have h18 : (List.take (4 : Nat) (List.drop (0 : Nat) [n17, n20, n23, n26])).length ≤ (1000000 : Nat) := by
          simp
        refine ⟨h18, ?_⟩
        intro ys_45
        intro n_46
        intro h19 -- ys_45 = sms (List.take (4 : Nat) (List.drop (0 : Nat) [n17, n20, n23, n26]))
        intro h20 -- ys_45.length = n_46
        refine ⟨?_, ?_⟩
        · -- left
          refine ⟨by first | omega | (dsimp only; omega), ?_⟩ -- n_46 = ys_45.length
          have h21 : n_46 ≤ (1000000 : Nat) := by
            have := sms_le h19 h20 (k := 4) (by simp)
            omega
          refine ⟨h21, ?_⟩
          exact by assumption -- l.length ≤ (1000000 : Nat)
        intro ys_49
        intro n_50
        intro h22 -- ys_49 = ys_45 ++ sms l
        intro h23 -- ys_49.length = n_50
        -- k (AV.tup [AV.row (0 : Nat) (0 : Nat) (0 : Nat) n_50, AV.int IntKind.i64 (0 : Int)]) [] [Blk.row (0 : Nat) ys_49]
        have gg := h1.1 c2
        have E : cE s c o l = 0 := by
          subst q6 q9
          rw [cE_w (by omega)]
          exact h3.symm.trans c5
        exact hk.2 E _ _ (by unfold cO; rw [if_pos E, h22, h19, q17, q20, q23, q26]; rfl) h23
      refine ⟨?_, ?_⟩
      · -- left
        refine ⟨?_, ?_⟩
        · -- left
          have h24 : (List.take (4 : Nat) (List.drop (0 : Nat) [n17, n20, n23, n26])).length ≤ (1000000 : Nat) := by
            simp
          refine ⟨h24, ?_⟩
          intro ys_53
          intro n_54
          intro h25 -- ys_53 = sms (List.take (4 : Nat) (List.drop (0 : Nat) [n17, n20, n23, n26]))
          intro h26 -- ys_53.length = n_54
          refine ⟨?_, ?_⟩
          · -- left
            refine ⟨by first | omega | (dsimp only; omega), ?_⟩ -- n_54 = ys_53.length
            have h27 : n_54 ≤ (1000000 : Nat) := by
              have := sms_le h25 h26 (k := 4) (by simp)
              omega
            refine ⟨h27, ?_⟩
            exact by assumption -- l.length ≤ (1000000 : Nat)
          intro ys_57
          intro n_58
          intro h28 -- ys_57 = ys_53 ++ sms l
          intro h29 -- ys_57.length = n_58
          -- k (AV.tup [AV.row (0 : Nat) (0 : Nat) (0 : Nat) n_58, AV.int IntKind.i64 (0 : Int)]) [] [Blk.row (0 : Nat) ys_57]
          have gg := h1.1 c2
          have E : cE s c o l = 0 := by
            subst q6 q9
            rw [cE_w (by omega)]
            exact h3.symm.trans c5
          exact hk.2 E _ _ (by unfold cO; rw [if_pos E, h28, h25, q17, q20, q23, q26]; rfl) h29
        have h30 : (List.take (4 : Nat) (List.drop (0 : Nat) [n17, n20, n23, n26])).length ≤ (1000000 : Nat) := by
          simp
        refine ⟨h30, ?_⟩
        intro ys_61
        intro n_62
        intro h31 -- ys_61 = sms (List.take (4 : Nat) (List.drop (0 : Nat) [n17, n20, n23, n26]))
        intro h32 -- ys_61.length = n_62
        refine ⟨?_, ?_⟩
        · -- left
          refine ⟨by first | omega | (dsimp only; omega), ?_⟩ -- n_62 = ys_61.length
          have h33 : n_62 ≤ (1000000 : Nat) := by
            have := sms_le h31 h32 (k := 4) (by simp)
            omega
          refine ⟨h33, ?_⟩
          exact by assumption -- l.length ≤ (1000000 : Nat)
        intro ys_65
        intro n_66
        intro h34 -- ys_65 = ys_61 ++ sms l
        intro h35 -- ys_65.length = n_66
        -- k (AV.tup [AV.row (0 : Nat) (0 : Nat) (0 : Nat) n_66, AV.int IntKind.i64 (0 : Int)]) [] [Blk.row (0 : Nat) ys_65]
        have gg := h1.1 c2
        have E : cE s c o l = 0 := by
          subst q6 q9
          rw [cE_w (by omega)]
          exact h3.symm.trans c5
        exact hk.2 E _ _ (by unfold cO; rw [if_pos E, h34, h31, q17, q20, q23, q26]; rfl) h35
      have h36 : (List.take (4 : Nat) (List.drop (0 : Nat) [n17, n20, n23, n26])).length ≤ (1000000 : Nat) := by
        simp
      refine ⟨h36, ?_⟩
      intro ys_69
      intro n_70
      intro h37 -- ys_69 = sms (List.take (4 : Nat) (List.drop (0 : Nat) [n17, n20, n23, n26]))
      intro h38 -- ys_69.length = n_70
      refine ⟨?_, ?_⟩
      · -- left
        refine ⟨by first | omega | (dsimp only; omega), ?_⟩ -- n_70 = ys_69.length
        have h39 : n_70 ≤ (1000000 : Nat) := by
          have := sms_le h37 h38 (k := 4) (by simp)
          omega
        refine ⟨h39, ?_⟩
        exact by assumption -- l.length ≤ (1000000 : Nat)
      intro ys_73
      intro n_74
      intro h40 -- ys_73 = ys_69 ++ sms l
      intro h41 -- ys_73.length = n_74
      -- k (AV.tup [AV.row (0 : Nat) (0 : Nat) (0 : Nat) n_74, AV.int IntKind.i64 (0 : Int)]) [] [Blk.row (0 : Nat) ys_73]
      have gg := h1.1 c2
      have E : cE s c o l = 0 := by
        subst q6 q9
        rw [cE_w (by omega)]
        exact h3.symm.trans c5
      exact hk.2 E _ _ (by unfold cO; rw [if_pos E, h40, h37, q17, q20, q23, q26]; rfl) h41

theorem command_ok : Holds Try.prog 21 commandS := by
  refine fn_sound (env := mkEnv M3) (tab_ok M3_ok) Try.func21 Try.call21 fun args k h => ?_
  match args, h with
  | [.agg [.int .i64 s, .int .i64 c, .int .i64 o, .sl 1 l]], h => exact ⟨by kernel_rfl, fun _ _ => none, fun _ _ => none, .cast (by kernel_rfl) (command_vc s c o l h.1 k h.2)⟩
set_option maxHeartbeats 2000000 in
theorem rcommand_vc (s : Int) (c : Int) (o : Int) (l : List Int) (hl : l.length ≤ (1000000 : Nat)) (k : AV → List (Option Blk) → List Blk → Prop) (hk : (∀ (e : Int), e = cE s c o l → e ≠ (0 : Int) → k (AV.tup [AV.nilsl, AV.int IntKind.i64 e]) [] []) ∧ (cE s c o l = (0 : Int) → ∀ (ys : List UInt8) (n : Nat), ys = cO s c o l → ys.length = n → k (AV.tup [AV.row (0 : Nat) (0 : Nat) (0 : Nat) n, AV.int IntKind.i64 (0 : Int)]) [] [Blk.row (0 : Nat) ys])) :
  ∀ (n1 : Int),
  (n1 = s) →
  ((-9223372036854775808 : Int) ≤ n1 ∧ n1 ≤ (9223372036854775807 : Int)) →
  ∀ (n4 : Int),
  (n4 = s) →
  br (bif decide (n1 < (0 : Int)) then true else decide (n4 > (65535 : Int)))
   ((k (AV.tup [AV.nilsl, AV.int IntKind.i64 (2 : Int)]) [] []))
   (∀ (n6 : Int),
    (n6 = c) →
    ((-9223372036854775808 : Int) ≤ n6 ∧ n6 ≤ (9223372036854775807 : Int)) →
    ∀ (n9 : Int),
    (n9 = o) →
    ((-9223372036854775808 : Int) ≤ n9 ∧ n9 ≤ (9223372036854775807 : Int)) →
    ({ cycle := n6, offset := n9, splits := l : Plan }.splits.length ≤ (1000000 : Nat)) ∧
    ∀ (e_12 : Int),
    ∀ (ys_13 : List UInt8),
    ∀ (n_14 : Nat),
    (e_12 = wE { cycle := n6, offset := n9, splits := l : Plan }.cycle { cycle := n6, offset := n9, splits := l : Plan }.offset { cycle := n6, offset := n9, splits := l : Plan }.splits) →
    (ys_13.length = n_14) →
    br (e_12 != (0 : Int))
     ((k (AV.tup [AV.nilsl, AV.int IntKind.i64 e_12]) [] []))
     (∀ (n17 : Int),
      (n17 = s) →
      ((-9223372036854775808 : Int) ≤ n17 ∧ n17 ≤ (9223372036854775807 : Int)) →
      ∀ (n20 : Int),
      (n20 = c) →
      ((-9223372036854775808 : Int) ≤ n20 ∧ n20 ≤ (9223372036854775807 : Int)) →
      ∀ (n23 : Int),
      (n23 = o) →
      ((-9223372036854775808 : Int) ≤ n23 ∧ n23 ≤ (9223372036854775807 : Int)) →
      ∀ (n26 : Int),
      (n26 = (↑l.length : Int)) →
      ((-9223372036854775808 : Int) ≤ n26 ∧ n26 ≤ (9223372036854775807 : Int)) →
      ((List.take (4 : Nat) (List.drop (0 : Nat) [n17, n20, n23, n26])).length ≤ (1000000 : Nat)) ∧
      ∀ (ys_29 : List UInt8),
      ∀ (n_30 : Nat),
      (ys_29 = sms (List.take (4 : Nat) (List.drop (0 : Nat) [n17, n20, n23, n26]))) →
      (ys_29.length = n_30) →
      (l.length ≤ (1000000 : Nat)) ∧
      ∀ (ys_33 : List UInt8),
      ∀ (n_34 : Nat),
      (ys_33 = sms l) →
      (ys_33.length = n_34) →
      ((n_30 + n_34) * (1 : Nat) ≤ (140737488355328 : Nat)) ∧
      ∀ (z37 : List UInt8),
      (z37 = List.take n_30 ys_29 ++ List.take n_34 (List.drop (0 : Nat) ys_33)) →
      (k (AV.tup [AV.row (0 : Nat) (0 : Nat) (0 : Nat) (n_30 + n_34), AV.int IntKind.i64 (0 : Int)]) [] [Blk.row (0 : Nat) z37]))) := by
  intro n1
  intro q1 -- n1 = s
  intro ⟨l1, u1⟩ -- (-9223372036854775808 : Int) ≤ n1 ∧ n1 ≤ (9223372036854775807 : Int)
  intro n4
  intro q4 -- n4 = s
  refine br_intro (fun c1 => ?_) (fun c1 => ?_) -- bif decide (n1 < (0 : Int)) then true else decide (n4 > (65535 : Int))
  · -- yes
    simp at c1 -- n1 < (0 : Int) ∨ (65535 : Int) < n4
    -- k (AV.tup [AV.nilsl, AV.int IntKind.i64 (2 : Int)]) [] []
    exact hk.1 2 (cE_2 (by omega)).symm (by decide)
  · -- no
    simp at c1 -- (0 : Int) ≤ n1 ∧ n4 ≤ (65535 : Int)
    intro n6
    intro q6 -- n6 = c
    intro ⟨l6, u6⟩ -- (-9223372036854775808 : Int) ≤ n6 ∧ n6 ≤ (9223372036854775807 : Int)
    intro n9
    intro q9 -- n9 = o
    intro ⟨l9, u9⟩ -- (-9223372036854775808 : Int) ≤ n9 ∧ n9 ≤ (9223372036854775807 : Int)
    refine ⟨by assumption, ?_⟩ -- { cycle := n6, offset := n9, splits := l : Plan }.splits.length ≤ (1000000 : Nat)
    intro e_12
    intro ys_13
    intro n_14
    intro h2 -- e_12 = wE { cycle := n6, offset := n9, splits := l : Plan }.cycle { cycle := n6, offset := n9, splits := l : Plan }.offset { cycle := n6, offset := n9, splits := l : Plan }.splits
    intro h3 -- ys_13.length = n_14
    refine br_intro (fun c4 => ?_) (fun c4 => ?_) -- e_12 != (0 : Int)
    · -- yes
      simp at c4 -- ¬e_12 = (0 : Int)
      -- k (AV.tup [AV.nilsl, AV.int IntKind.i64 e_12]) [] []
      subst q6 q9
      exact hk.1 e_12 (h2.trans (cE_w (by omega)).symm) c4
    · -- no
      simp at c4 -- e_12 = (0 : Int)
      intro n17
      intro q17 -- n17 = s
      intro ⟨l17, u17⟩ -- (-9223372036854775808 : Int) ≤ n17 ∧ n17 ≤ (9223372036854775807 : Int)
      intro n20
      intro q20 -- n20 = c
      intro ⟨l20, u20⟩ -- (-9223372036854775808 : Int) ≤ n20 ∧ n20 ≤ (9223372036854775807 : Int)
      intro n23
      intro q23 -- n23 = o
      intro ⟨l23, u23⟩ -- (-9223372036854775808 : Int) ≤ n23 ∧ n23 ≤ (9223372036854775807 : Int)
      intro n26
      intro q26 -- n26 = (↑l.length : Int)
      intro ⟨l26, u26⟩ -- (-9223372036854775808 : Int) ≤ n26 ∧ n26 ≤ (9223372036854775807 : Int)
      have h5 : (List.take (4 : Nat) (List.drop (0 : Nat) [n17, n20, n23, n26])).length ≤ (1000000 : Nat) := by
        simp
      refine ⟨h5, ?_⟩
      intro ys_29
      intro n_30
      intro h6 -- ys_29 = sms (List.take (4 : Nat) (List.drop (0 : Nat) [n17, n20, n23, n26]))
      intro h7 -- ys_29.length = n_30
      refine ⟨by assumption, ?_⟩ -- l.length ≤ (1000000 : Nat)
      intro ys_33
      intro n_34
      intro h8 -- ys_33 = sms l
      intro h9 -- ys_33.length = n_34
      have h10 : (n_30 + n_34) * (1 : Nat) ≤ (140737488355328 : Nat) := by
        have := sms_le h6 h7 (k := 4) (by simp)
        have := sms_le h8 h9 (k := 1000000) hl
        omega
      refine ⟨h10, ?_⟩
      intro z37
      intro qz37 -- z37 = List.take n_30 ys_29 ++ List.take n_34 (List.drop (0 : Nat) ys_33)
      -- k (AV.tup [AV.row (0 : Nat) (0 : Nat) (0 : Nat) (n_30 + n_34), AV.int IntKind.i64 (0 : Int)]) [] [Blk.row (0 : Nat) z37]
      have E : cE s c o l = 0 := by
        subst q6 q9
        rw [cE_w (by omega)]
        exact h2.symm.trans c4
      have Z : z37 = cO s c o l := by
        unfold cO
        rw [if_pos E, qz37, ← h7, ← h9, List.drop_zero, List.take_length, List.take_length, h6, h8, q17, q20, q23, q26]; rfl
      exact hk.2 E _ _ Z (by rw [qz37, List.length_append, List.length_take, List.length_take, List.length_drop]; omega)

theorem rcommand_ok : Holds Try.prog 22 commandS := by
  refine fn_sound (env := mkEnv M3) (tab_ok M3_ok) Try.func22 Try.call22 fun args k h => ?_
  match args, h with
  | [.agg [.int .i64 s, .int .i64 c, .int .i64 o, .sl 1 l]], h => exact ⟨by kernel_rfl, fun _ _ => none, fun _ _ => none, .cast (by kernel_rfl) (rcommand_vc s c o l h.1 k h.2)⟩
set_option maxHeartbeats 2000000 in
theorem samec_vc (sia : Int) (cya : Int) (ofa : Int) (wa : List Int) (sib : Int) (cyb : Int) (ofb : Int) (wb : List Int) (k : AV → List (Option Blk) → List Blk → Prop) (hk : ∀ (r : Bool), (r = true ↔ sia = sib ∧ cya = cyb ∧ ofa = ofb ∧ wa = wb) → k (AV.bool r) [] []) :
  ∀ (n1 : Int),
  (n1 = sia) →
  ((-9223372036854775808 : Int) ≤ n1 ∧ n1 ≤ (9223372036854775807 : Int)) →
  ∀ (n4 : Int),
  (n4 = sib) →
  ((-9223372036854775808 : Int) ≤ n4 ∧ n4 ≤ (9223372036854775807 : Int)) →
  ∀ (n7 : Int),
  (n7 = cya) →
  ∀ (n9 : Int),
  (n9 = ofa) →
  ∀ (n11 : Int),
  (n11 = cyb) →
  ∀ (n13 : Int),
  (n13 = ofb) →
  br (n1 == n4)
   (∀ (r_15 : Bool),
    (r_15 = true ↔ n7 = n11 ∧ n9 = n13 ∧ wa = wb) →
    (k (AV.bool (bif true then r_15 else false)) [] []))
   ((false = false) ∧
    (k (AV.bool false) [] [])) := by
  intro n1
  intro q1 -- n1 = sia
  intro ⟨l1, u1⟩ -- (-9223372036854775808 : Int) ≤ n1 ∧ n1 ≤ (9223372036854775807 : Int)
  intro n4
  intro q4 -- n4 = sib
  intro ⟨l4, u4⟩ -- (-9223372036854775808 : Int) ≤ n4 ∧ n4 ≤ (9223372036854775807 : Int)
  intro n7
  intro q7 -- n7 = cya
  intro n9
  intro q9 -- n9 = ofa
  intro n11
  intro q11 -- n11 = cyb
  intro n13
  intro q13 -- n13 = ofb
  refine br_intro (fun c1 => ?_) (fun c1 => ?_) -- n1 == n4
  · -- yes
    simp at c1 -- n1 = n4
    intro r_15
    intro h2 -- r_15 = true ↔ n7 = n11 ∧ n9 = n13 ∧ wa = wb
    -- k (AV.bool (bif true then r_15 else false)) [] []
    refine hk _ ?_
    show r_15 = true ↔ _
    rw [h2]
    exact ⟨fun ⟨a, b, c⟩ => ⟨by omega, by omega, by omega, c⟩, fun ⟨a, b, c, d⟩ => ⟨by omega, by omega, d⟩⟩
  · -- no
    simp at c1 -- ¬n1 = n4
    refine ⟨by with_reducible rfl, ?_⟩ -- false = false
    -- k (AV.bool false) [] []
    exact hk false ⟨fun c => (by cases c), fun ⟨e1, _⟩ => absurd (show n1 = n4 by omega) c1⟩

theorem samec_ok : Holds Try.prog 29 sameCS := by
  refine fn_sound (env := mkEnv M3) (tab_ok M3_ok) Try.func29 Try.call29 fun args k h => ?_
  match args, h with
  | [.agg [.int .i64 sia, .int .i64 cya, .int .i64 ofa, .sl 1 wa], .agg [.int .i64 sib, .int .i64 cyb, .int .i64 ofb, .sl 1 wb]], h => exact ⟨by kernel_rfl, fun _ _ => none, fun _ _ => none, .cast (by kernel_rfl) (samec_vc sia cya ofa wa sib cyb ofb wb k h)⟩
end Go.Proofs.Ytpkfadgennejnaa

