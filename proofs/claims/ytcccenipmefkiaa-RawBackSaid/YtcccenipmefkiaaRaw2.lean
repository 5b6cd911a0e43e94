import Derived.Test.YtcccenipmefkiaaRaw1
namespace Go.Proofs.Ytcccenipmefkiaa
open Go Go.Eng Go.Proofs
set_option linter.unusedVariables false

theorem crcN_succ (xs : List UInt8) (i : Nat) (h : i < xs.length) : crcN (xs.take (i + 1)) = byteN (crcN (xs.take i)) (xs.getD i 0).toNat := by
  unfold crcN
  rw [List.take_succ_eq_append_getElem h, List.foldl_append]
  simp [List.getD, h]
theorem crcR_succ (xs : List UInt8) (i : Nat) (h : i < xs.length) : crcR (xs.take (i + 1)) = iterN 8 (crcR (xs.take i) ^^^ (xs.getD i 0).toNat) := by
  unfold crcR
  rw [List.take_succ_eq_append_getElem h, List.foldl_append]
  simp [List.getD, h]
theorem toList_mk (xs : List UInt8) : (ByteArray.mk xs.toArray).toList = xs := by rw [ByteArray.toList_eq]

theorem sum_vc (xs : List UInt8) (k : AV → List (Option Blk) → List Blk → Prop) (hxs : xs.length ≤ (1000000 : Nat)) (hk : k (AV.int IntKind.u32 (↑(crcN xs ^^^ (4294967295 : Nat)) : Int)) [] []) :
  ([UInt32.ofNat (Int.toNat (0 : Int)), UInt32.ofNat (Int.toNat (498536548 : Int)), UInt32.ofNat (Int.toNat (997073096 : Int)), UInt32.ofNat (Int.toNat (651767980 : Int)), UInt32.ofNat (Int.toNat (1994146192 : Int)), UInt32.ofNat (Int.toNat (1802195444 : Int)), UInt32.ofNat (Int.toNat (1303535960 : Int)), UInt32.ofNat (Int.toNat (1342533948 : Int)), UInt32.ofNat (Int.toNat (3988292384 : Int)), UInt32.ofNat (Int.toNat (4027552580 : Int)), UInt32.ofNat (Int.toNat (3604390888 : Int)), UInt32.ofNat (Int.toNat (3412177804 : Int)), UInt32.ofNat (Int.toNat (2607071920 : Int)), UInt32.ofNat (Int.toNat (2262029012 : Int)), UInt32.ofNat (Int.toNat (2685067896 : Int)), UInt32.ofNat (Int.toNat (3183342108 : Int))].length = [UInt32.ofNat (Int.toNat (0 : Int)), UInt32.ofNat (Int.toNat (0 : Int)), UInt32.ofNat (Int.toNat (0 : Int)), UInt32.ofNat (Int.toNat (0 : Int)), UInt32.ofNat (Int.toNat (0 : Int)), UInt32.ofNat (Int.toNat (0 : Int)), UInt32.ofNat (Int.toNat (0 : Int)), UInt32.ofNat (Int.toNat (0 : Int)), UInt32.ofNat (Int.toNat (0 : Int)), UInt32.ofNat (Int.toNat (0 : Int)), UInt32.ofNat (Int.toNat (0 : Int)), UInt32.ofNat (Int.toNat (0 : Int)), UInt32.ofNat (Int.toNat (0 : Int)), UInt32.ofNat (Int.toNat (0 : Int)), UInt32.ofNat (Int.toNat (0 : Int)), UInt32.ofNat (Int.toNat (0 : Int))].length) ∧
  (
   ∃ (v : Nat × Nat),
   ((4294967295 : Int) = (↑v.snd : Int)) ∧
   (xs = xs) ∧
   ((↑xs.length : Int) = (↑xs.length : Int)) ∧
   ((0 : Int) = (↑v.fst : Int)) ∧
   ([UInt32.ofNat (Int.toNat (0 : Int)), UInt32.ofNat (Int.toNat (498536548 : Int)), UInt32.ofNat (Int.toNat (997073096 : Int)), UInt32.ofNat (Int.toNat (651767980 : Int)), UInt32.ofNat (Int.toNat (1994146192 : Int)), UInt32.ofNat (Int.toNat (1802195444 : Int)), UInt32.ofNat (Int.toNat (1303535960 : Int)), UInt32.ofNat (Int.toNat (1342533948 : Int)), UInt32.ofNat (Int.toNat (3988292384 : Int)), UInt32.ofNat (Int.toNat (4027552580 : Int)), UInt32.ofNat (Int.toNat (3604390888 : Int)), UInt32.ofNat (Int.toNat (3412177804 : Int)), UInt32.ofNat (Int.toNat (2607071920 : Int)), UInt32.ofNat (Int.toNat (2262029012 : Int)), UInt32.ofNat (Int.toNat (2685067896 : Int)), UInt32.ofNat (Int.toNat (3183342108 : Int))] = T) ∧
   (v.fst ≤ xs.length) ∧
   (v.snd ≤ (4294967295 : Nat)) ∧
   (v.snd = crcN (List.take v.fst xs))) ∧
  ∀ (v1 : Nat × Nat),
  (v1.fst ≤ xs.length ∧ v1.snd ≤ (4294967295 : Nat) ∧ v1.snd = crcN (List.take v1.fst xs)) →
  br (decide ((↑v1.fst : Int) < (↑xs.length : Int)))
   (((0 : Int) ≤ (↑v1.fst : Int)) ∧
    ((↑v1.fst : Int) < (↑xs.length : Int)) ∧
    ∀ (n2 : Int),
    (n2 = (↑(UInt8.toNat (xs.getD (↑v1.fst : Int).toNat (dflt (0 : Nat)))) : Int)) →
    ((0 : Int) ≤ n2 ∧ n2 ≤ (255 : Int)) →
    ((0 : Int) ≤ (4 : Int)) ∧
    ∀ (n3 : Int),
    (n3 = (↑v1.snd : Int).fdiv ((2 : Int) ^ min (Int.toNat (4 : Int)) IntKind.u32.bits)) →
    ((0 : Int) ≤ n3 ∧ n3 ≤ (4294967295 : Int)) →
    ∀ (n4 : Int),
    (n4 = IntKind.u32.wrap n2) →
    ((0 : Int) ≤ n4 ∧ n4 ≤ (4294967295 : Int)) →
    ∀ (n5 : Int),
    (n5 = bits BinOp.xor IntKind.u32 (↑v1.snd : Int) n4) →
    ((0 : Int) ≤ n5 ∧ n5 ≤ (4294967295 : Int)) →
    ∀ (n6 : Int),
    (n6 = bits BinOp.and IntKind.u32 n5 (15 : Int)) →
    ((0 : Int) ≤ n6 ∧ n6 ≤ (4294967295 : Int)) →
    ((0 : Int) ≤ n6) ∧
    (n6 < (↑(16 : Nat) : Int)) ∧
    (n6.toNat < T.length) ∧
    ∀ (n7 : Int),
    (n7 = (↑(UInt32.toNat (T.getD n6.toNat (dflt (2 : Nat)))) : Int)) →
    ((0 : Int) ≤ n7 ∧ n7 ≤ (4294967295 : Int)) →
    ∀ (n8 : Int),
    (n8 = bits BinOp.xor IntKind.u32 n3 n7) →
    ((0 : Int) ≤ n8 ∧ n8 ≤ (4294967295 : Int)) →
    ((0 : Int) ≤ (4 : Int)) ∧
    ∀ (n9 : Int),
    (n9 = n8.fdiv ((2 : Int) ^ min (Int.toNat (4 : Int)) IntKind.u32.bits)) →
    ((0 : Int) ≤ n9 ∧ n9 ≤ (4294967295 : Int)) →
    ((0 : Int) ≤ (4 : Int)) ∧
    ∀ (n10 : Int),
    (n10 = n2.fdiv ((2 : Int) ^ min (Int.toNat (4 : Int)) IntKind.u8.bits)) →
    ((0 : Int) ≤ n10 ∧ n10 ≤ (255 : Int)) →
    ∀ (n11 : Int),
    (n11 = IntKind.u32.wrap n10) →
    ((0 : Int) ≤ n11 ∧ n11 ≤ (4294967295 : Int)) →
    ∀ (n12 : Int),
    (n12 = bits BinOp.xor IntKind.u32 n8 n11) →
    ((0 : Int) ≤ n12 ∧ n12 ≤ (4294967295 : Int)) →
    ∀ (n13 : Int),
    (n13 = bits BinOp.and IntKind.u32 n12 (15 : Int)) →
    ((0 : Int) ≤ n13 ∧ n13 ≤ (4294967295 : Int)) →
    ((0 : Int) ≤ n13) ∧
    (n13 < (↑(16 : Nat) : Int)) ∧
    (n13.toNat < T.length) ∧
    ∀ (n14 : Int),
    (n14 = (↑(UInt32.toNat (T.getD n13.toNat (dflt (2 : Nat)))) : Int)) →
    ((0 : Int) ≤ n14 ∧ n14 ≤ (4294967295 : Int)) →
    ∀ (n15 : Int),
    (n15 = bits BinOp.xor IntKind.u32 n9 n14) →
    ((0 : Int) ≤ n15 ∧ n15 ≤ (4294967295 : Int)) →
    ∀ (n16 : Int),
    (n16 = IntKind.i64.wrap ((↑v1.fst : Int) + (1 : Int))) →
    ((-9223372036854775808 : Int) ≤ n16 ∧ n16 ≤ (9223372036854775807 : Int)) →
    ∃ (v' : Nat × Nat),
    (n15 = (↑v'.snd : Int)) ∧
    (xs = xs) ∧
    ((↑xs.length : Int) = (↑xs.length : Int)) ∧
    (n16 = (↑v'.fst : Int)) ∧
    ([(0 : UInt32), (498536548 : UInt32), (997073096 : UInt32), (651767980 : UInt32), (1994146192 : UInt32), (1802195444 : UInt32), (1303535960 : UInt32), (1342533948 : UInt32), (3988292384 : UInt32), (4027552580 : UInt32), (3604390888 : UInt32), (3412177804 : UInt32), (2607071920 : UInt32), (2262029012 : UInt32), (2685067896 : UInt32), (3183342108 : UInt32)] = T) ∧
    (
     (v'.fst ≤ xs.length) ∧
     (v'.snd ≤ (4294967295 : Nat)) ∧
     (v'.snd = crcN (List.take v'.fst xs))) ∧
    (xs.length - v'.fst < xs.length - v1.fst))
   (∀ (n17 : Int),
    (n17 = bits BinOp.xor IntKind.u32 (4294967295 : Int) (↑v1.snd : Int)) →
    ((0 : Int) ≤ n17 ∧ n17 ≤ (4294967295 : Int)) →
    (k (AV.int IntKind.u32 n17) [] [])) := by
  refine ⟨by rfl, ?_⟩ -- [UInt32.ofNat (Int.toNat (0 : Int)), UInt32.ofNat (Int.toNat (498536548 : Int)), UInt32.ofNat (Int.toNat (997073096 : Int)), UInt32.ofNat (Int.toNat (651767980 : Int)), UInt32.ofNat (Int.toNat (1994146192 : Int)), UInt32.ofNat (Int.toNat (1802195444 : Int)), UInt32.ofNat (Int.toNat (1303535960 : Int)), UInt32.ofNat (Int.toNat (1342533948 : Int)), UInt32.ofNat (Int.toNat (3988292384 : Int)), UInt32.ofNat (Int.toNat (4027552580 : Int)), UInt32.ofNat (Int.toNat (3604390888 : Int)), UInt32.ofNat (Int.toNat (3412177804 : Int)), UInt32.ofNat (Int.toNat (2607071920 : Int)), UInt32.ofNat (Int.toNat (2262029012 : Int)), UInt32.ofNat (Int.toNat (2685067896 : Int)), UInt32.ofNat (Int.toNat (3183342108 : Int))].length = [UInt32.ofNat (Int.toNat (0 : Int)), UInt32.ofNat (Int.toNat (0 : Int)), UInt32.ofNat (Int.toNat (0 : Int)), UInt32.ofNat (Int.toNat (0 : Int)), UInt32.ofNat (Int.toNat (0 : Int)), UInt32.ofNat (Int.toNat (0 : Int)), UInt32.ofNat (Int.toNat (0 : Int)), UInt32.ofNat (Int.toNat (0 : Int)), UInt32.ofNat (Int.toNat (0 : Int)), UInt32.ofNat (Int.toNat (0 : Int)), UInt32.ofNat (Int.toNat (0 : Int)), UInt32.ofNat (Int.toNat (0 : Int)), UInt32.ofNat (Int.toNat (0 : Int)), UInt32.ofNat (Int.toNat (0 : Int)), UInt32.ofNat (Int.toNat (0 : Int)), UInt32.ofNat (Int.toNat (0 : Int))].length
  refine ⟨?_, ?_⟩
  · -- left
    refine ⟨((0 : Nat), (4294967295 : Nat)), ?_⟩
    refine ⟨by show (4294967295 : Int) = (↑(4294967295 : Nat) : Int); omega, ?_⟩ -- (4294967295 : Int) = (↑(4294967295 : Nat) : Int)
    refine ⟨by with_reducible rfl, ?_⟩ -- xs = xs
    refine ⟨by with_reducible rfl, ?_⟩ -- (↑xs.length : Int) = (↑xs.length : Int)
    refine ⟨by show (0 : Int) = (↑(0 : Nat) : Int); omega, ?_⟩ -- (0 : Int) = (↑(0 : Nat) : Int)
    refine ⟨by rfl, ?_⟩ -- [UInt32.ofNat (Int.toNat (0 : Int)), UInt32.ofNat (Int.toNat (498536548 : Int)), UInt32.ofNat (Int.toNat (997073096 : Int)), UInt32.ofNat (Int.toNat (651767980 : Int)), UInt32.ofNat (Int.toNat (1994146192 : Int)), UInt32.ofNat (Int.toNat (1802195444 : Int)), UInt32.ofNat (Int.toNat (1303535960 : Int)), UInt32.ofNat (Int.toNat (1342533948 : Int)), UInt32.ofNat (Int.toNat (3988292384 : Int)), UInt32.ofNat (Int.toNat (4027552580 : Int)), UInt32.ofNat (Int.toNat (3604390888 : Int)), UInt32.ofNat (Int.toNat (3412177804 : Int)), UInt32.ofNat (Int.toNat (2607071920 : Int)), UInt32.ofNat (Int.toNat (2262029012 : Int)), UInt32.ofNat (Int.toNat (2685067896 : Int)), UInt32.ofNat (Int.toNat (3183342108 : Int))] = T
    refine ⟨by show (0 : Nat) ≤ xs.length; omega, ?_⟩ -- (0 : Nat) ≤ xs.length
    refine ⟨by show (4294967295 : Nat) ≤ (4294967295 : Nat); omega, ?_⟩ -- (4294967295 : Nat) ≤ (4294967295 : Nat)
    exact by rfl -- (4294967295 : Nat) = crcN (List.take (0 : Nat) xs)
  intro v1
  intro h1 -- v1.fst ≤ xs.length ∧ v1.snd ≤ (4294967295 : Nat) ∧ v1.snd = crcN (List.take v1.fst xs)
  refine brd (fun c2 => ?_) (fun c2 => ?_) -- decide ((↑v1.fst : Int) < (↑xs.length : Int))
  · -- yes
    refine ⟨by omega, ?_⟩ -- (0 : Int) ≤ (↑v1.fst : Int)
    refine ⟨by assumption, ?_⟩ -- (↑v1.fst : Int) < (↑xs.length : Int)
    intro n2
    intro q2 -- n2 = (↑(UInt8.toNat (xs.getD (↑v1.fst : Int).toNat (dflt (0 : Nat)))) : Int)
    intro ⟨l2, u2⟩ -- (0 : Int) ≤ n2 ∧ n2 ≤ (255 : Int)
    refine ⟨by omega, ?_⟩ -- (0 : Int) ≤ (4 : Int)
    intro n3
    intro q3 -- n3 = (↑v1.snd : Int).fdiv ((2 : Int) ^ min (Int.toNat (4 : Int)) IntKind.u32.bits)
    rw [show (2 : Int) ^ min (Int.toNat (4 : Int)) IntKind.u32.bits = 16 from rfl, Int.fdiv_eq_ediv_of_nonneg _ (by decide)] at q3
    intro ⟨l3, u3⟩ -- (0 : Int) ≤ n3 ∧ n3 ≤ (4294967295 : Int)
    intro n4
    intro q4 -- n4 = IntKind.u32.wrap n2
    rw [IntKind.wrap_u32] at q4
    intro ⟨l4, u4⟩ -- (0 : Int) ≤ n4 ∧ n4 ≤ (4294967295 : Int)
    intro n5
    intro q5 -- n5 = bits BinOp.xor IntKind.u32 (↑v1.snd : Int) n4
    rw [xor_u32 _ _ (by omega) (by omega) (by omega) (by omega)] at q5
    intro ⟨l5, u5⟩ -- (0 : Int) ≤ n5 ∧ n5 ≤ (4294967295 : Int)
    intro n6
    intro q6 -- n6 = bits BinOp.and IntKind.u32 n5 (15 : Int)
    rw [and_u32 4 (by decide) 15 16 (by decide) (by decide) _ (by omega) (by omega)] at q6
    intro ⟨l6, u6⟩ -- (0 : Int) ≤ n6 ∧ n6 ≤ (4294967295 : Int)
    refine ⟨by assumption, ?_⟩ -- (0 : Int) ≤ n6
    refine ⟨by omega, ?_⟩ -- n6 < (↑(16 : Nat) : Int)
    have h3 : n6.toNat < T.length := by
      show n6.toNat < 16
      omega
    refine ⟨h3, ?_⟩
    intro n7
    intro q7 -- n7 = (↑(UInt32.toNat (T.getD n6.toNat (dflt (2 : Nat)))) : Int)
    intro ⟨l7, u7⟩ -- (0 : Int) ≤ n7 ∧ n7 ≤ (4294967295 : Int)
    intro n8
    intro q8 -- n8 = bits BinOp.xor IntKind.u32 n3 n7
    rw [xor_u32 _ _ (by omega) (by omega) (by omega) (by omega)] at q8
    intro ⟨l8, u8⟩ -- (0 : Int) ≤ n8 ∧ n8 ≤ (4294967295 : Int)
    refine ⟨by omega, ?_⟩ -- (0 : Int) ≤ (4 : Int)
    intro n9
    intro q9 -- n9 = n8.fdiv ((2 : Int) ^ min (Int.toNat (4 : Int)) IntKind.u32.bits)
    rw [show (2 : Int) ^ min (Int.toNat (4 : Int)) IntKind.u32.bits = 16 from rfl, Int.fdiv_eq_ediv_of_nonneg _ (by decide)] at q9
    intro ⟨l9, u9⟩ -- (0 : Int) ≤ n9 ∧ n9 ≤ (4294967295 : Int)
    refine ⟨by omega, ?_⟩ -- (0 : Int) ≤ (4 : Int)
    intro n10
    intro q10 -- n10 = n2.fdiv ((2 : Int) ^ min (Int.toNat (4 : Int)) IntKind.u8.bits)
    rw [show (2 : Int) ^ min (Int.toNat (4 : Int)) IntKind.u8.bits = 16 from rfl, Int.fdiv_eq_ediv_of_nonneg _ (by decide)] at q10
    intro ⟨l10, u10⟩ -- (0 : Int) ≤ n10 ∧ n10 ≤ (255 : Int)
    intro n11
    intro q11 -- n11 = IntKind.u32.wrap n10
    rw [IntKind.wrap_u32] at q11
    intro ⟨l11, u11⟩ -- (0 : Int) ≤ n11 ∧ n11 ≤ (4294967295 : Int)
    intro n12
    intro q12 -- n12 = bits BinOp.xor IntKind.u32 n8 n11
    rw [xor_u32 _ _ (by omega) (by omega) (by omega) (by omega)] at q12
    intro ⟨l12, u12⟩ -- (0 : Int) ≤ n12 ∧ n12 ≤ (4294967295 : Int)
    intro n13
    intro q13 -- n13 = bits BinOp.and IntKind.u32 n12 (15 : Int)
    rw [and_u32 4 (by decide) 15 16 (by decide) (by decide) _ (by omega) (by omega)] at q13
    intro ⟨l13, u13⟩ -- (0 : Int) ≤ n13 ∧ n13 ≤ (4294967295 : Int)
    refine ⟨by assumption, ?_⟩ -- (0 : Int) ≤ n13
    refine ⟨by omega, ?_⟩ -- n13 < (↑(16 : Nat) : Int)
    have h4 : n13.toNat < T.length := by
      show n13.toNat < 16
      omega
    refine ⟨h4, ?_⟩
    intro n14
    intro q14 -- n14 = (↑(UInt32.toNat (T.getD n13.toNat (dflt (2 : Nat)))) : Int)
    intro ⟨l14, u14⟩ -- (0 : Int) ≤ n14 ∧ n14 ≤ (4294967295 : Int)
    intro n15
    intro q15 -- n15 = bits BinOp.xor IntKind.u32 n9 n14
    rw [xor_u32 _ _ (by omega) (by omega) (by omega) (by omega)] at q15
    intro ⟨l15, u15⟩ -- (0 : Int) ≤ n15 ∧ n15 ≤ (4294967295 : Int)
    intro n16
    intro q16 -- n16 = IntKind.i64.wrap ((↑v1.fst : Int) + (1 : Int))
    rw [IntKind.wrap_i64] at q16
    intro ⟨l16, u16⟩ -- (-9223372036854775808 : Int) ≤ n16 ∧ n16 ≤ (9223372036854775807 : Int)
    refine ⟨(v1.fst + (1 : Nat), n15.toNat), ?_⟩
    refine ⟨by show n15 = (↑n15.toNat : Int); omega, ?_⟩ -- n15 = (↑n15.toNat : Int)
    refine ⟨by with_reducible rfl, ?_⟩ -- xs = xs
    refine ⟨by with_reducible rfl, ?_⟩ -- (↑xs.length : Int) = (↑xs.length : Int)
    refine ⟨by show n16 = (↑(v1.fst + (1 : Nat)) : Int); omega, ?_⟩ -- n16 = (↑(v1.fst + (1 : Nat)) : Int)
    refine ⟨by decide, ?_⟩ -- [(0 : UInt32), (498536548 : UInt32), (997073096 : UInt32), (651767980 : UInt32), (1994146192 : UInt32), (1802195444 : UInt32), (1303535960 : UInt32), (1342533948 : UInt32), (3988292384 : UInt32), (4027552580 : UInt32), (3604390888 : UInt32), (3412177804 : UInt32), (2607071920 : UInt32), (2262029012 : UInt32), (2685067896 : UInt32), (3183342108 : UInt32)] = T
    refine ⟨?_, ?_⟩
    · -- left
      refine ⟨by show v1.fst + (1 : Nat) ≤ xs.length; omega, ?_⟩ -- v1.fst + (1 : Nat) ≤ xs.length
      refine ⟨by show n15.toNat ≤ (4294967295 : Nat); omega, ?_⟩ -- n15.toNat ≤ (4294967295 : Nat)
      -- n15.toNat = crcN (List.take (v1.fst + (1 : Nat)) xs)
      rw [crcN_succ xs v1.fst (by omega), ← h1.2.2]
      have e1 : n2.toNat = (xs.getD v1.fst 0).toNat := by rw [q2]; rfl
      rw [← e1]
      unfold byteN
      have g1 : nib v1.snd n2.toNat = n8.toNat := by
        unfold nib
        have e3 : n4 = n2 := by omega
        have e6 : n7.toNat = (T.getD ((v1.snd ^^^ n2.toNat) % 16) 0).toNat := by
          have : n6.toNat = (v1.snd ^^^ n2.toNat) % 16 := by rw [q6, q5, e3, Int.toNat_natCast]; omega
          rw [q7, this]; rfl
        have e2 : n3.toNat = v1.snd / 16 := by omega
        rw [← e6, q8, ← e2]
        omega
      rw [g1]
      unfold nib
      have e10 : n11.toNat = n2.toNat / 16 := by omega
      have e13 : n14.toNat = (T.getD ((n8.toNat ^^^ n2.toNat / 16) % 16) 0).toNat := by
        have : n13.toNat = (n8.toNat ^^^ n2.toNat / 16) % 16 := by rw [q13, q12, e10]; omega
        rw [q14, this]; rfl
      have e8 : n9.toNat = n8.toNat / 16 := by omega
      rw [← e13, q15, ← e8]
      omega
    exact by show xs.length - (v1.fst + (1 : Nat)) < xs.length - v1.fst; omega -- xs.length - (v1.fst + (1 : Nat)) < xs.length - v1.fst
  · -- no
    intro n17
    intro q17 -- n17 = bits BinOp.xor IntKind.u32 (4294967295 : Int) (↑v1.snd : Int)
    rw [xor_u32 _ _ (by omega) (by omega) (by omega) (by omega)] at q17
    intro ⟨l17, u17⟩ -- (0 : Int) ≤ n17 ∧ n17 ≤ (4294967295 : Int)
    -- k (AV.int IntKind.u32 n17) [] []
    have e : n17 = ((crcN xs ^^^ 4294967295 : Nat) : Int) := by
      rw [q17]
      have : v1.fst = xs.length := by omega
      rw [this, List.take_length] at h1
      rw [h1.2.2, Nat.xor_comm]
      rfl
    rw [e]; exact hk

theorem refSum_vc (xs : List UInt8) (k : AV → List (Option Blk) → List Blk → Prop) (hxs : xs.length ≤ (1000000 : Nat)) (hk : k (AV.int IntKind.u32 (↑(crcR xs ^^^ (4294967295 : Nat)) : Int)) [] []) :
  (
   ∃ (v : Nat × Nat),
   (xs = xs) ∧
   ((4294967295 : Int) = (↑v.snd : Int)) ∧
   ((0 : Int) = (↑v.fst : Int)) ∧
   (v.fst ≤ xs.length) ∧
   (v.snd ≤ (4294967295 : Nat)) ∧
   (v.snd = crcR (List.take v.fst xs))) ∧
  ∀ (v1 : Nat × Nat),
  (v1.fst ≤ xs.length ∧ v1.snd ≤ (4294967295 : Nat) ∧ v1.snd = crcR (List.take v1.fst xs)) →
  br (decide ((↑v1.fst : Int) < (↑xs.length : Int)))
   (((0 : Int) ≤ (↑v1.fst : Int)) ∧
    ((↑v1.fst : Int) < (↑xs.length : Int)) ∧
    ∀ (n2 : Int),
    (n2 = (↑(UInt8.toNat (xs.getD (↑v1.fst : Int).toNat (dflt (0 : Nat)))) : Int)) →
    ((0 : Int) ≤ n2 ∧ n2 ≤ (255 : Int)) →
    ∀ (n3 : Int),
    (n3 = IntKind.u32.wrap n2) →
    ((0 : Int) ≤ n3 ∧ n3 ≤ (4294967295 : Int)) →
    ∀ (n4 : Int),
    (n4 = bits BinOp.xor IntKind.u32 (↑v1.snd : Int) n3) →
    ((0 : Int) ≤ n4 ∧ n4 ≤ (4294967295 : Int)) →
    (
     ∃ (v : Nat × Nat × Nat),
     (xs = xs) ∧
     (n4 = (↑v.snd.fst : Int)) ∧
     ((↑v1.fst : Int) = (↑v.fst : Int)) ∧
     ((0 : Int) = (↑v.snd.snd : Int)) ∧
     (v.fst = v1.fst) ∧
     (v.fst < xs.length) ∧
     (v.snd.snd ≤ (8 : Nat)) ∧
     (v.snd.fst ≤ (4294967295 : Nat)) ∧
     (v.snd.fst = iterN v.snd.snd (crcR (List.take v.fst xs) ^^^ (xs.getD v.fst (0 : UInt8)).toNat))) ∧
    ∀ (v5 : Nat × Nat × Nat),
    (v5.fst = v1.fst ∧ v5.fst < xs.length ∧ v5.snd.snd ≤ (8 : Nat) ∧ v5.snd.fst ≤ (4294967295 : Nat) ∧ v5.snd.fst = iterN v5.snd.snd (crcR (List.take v5.fst xs) ^^^ (xs.getD v5.fst (0 : UInt8)).toNat)) →
    br (decide ((↑v5.snd.snd : Int) < (8 : Int)))
     (((2 : Int) ≠ (0 : Int)) ∧
      ∀ (n6 : Int),
      (n6 = (↑v5.snd.fst : Int).tmod (2 : Int)) →
      ((0 : Int) ≤ n6 ∧ n6 ≤ (4294967295 : Int)) →
      ((2 : Int) ≠ (0 : Int)) ∧
      ∀ (n7 : Int),
      (n7 = IntKind.u32.wrap ((↑v5.snd.fst : Int).tdiv (2 : Int))) →
      ((0 : Int) ≤ n7 ∧ n7 ≤ (4294967295 : Int)) →
      br (n6 == (1 : Int))
       (∀ (n8 : Int),
        (n8 = bits BinOp.xor IntKind.u32 n7 (3988292384 : Int)) →
        ((0 : Int) ≤ n8 ∧ n8 ≤ (4294967295 : Int)) →
        ∀ (n9 : Int),
        (n9 = IntKind.i64.wrap ((↑v5.snd.snd : Int) + (1 : Int))) →
        ((-9223372036854775808 : Int) ≤ n9 ∧ n9 ≤ (9223372036854775807 : Int)) →
        ∃ (v' : Nat × Nat × Nat),
        (xs = xs) ∧
        (n8 = (↑v'.snd.fst : Int)) ∧
        ((↑v5.fst : Int) = (↑v'.fst : Int)) ∧
        (n9 = (↑v'.snd.snd : Int)) ∧
        (
         (v'.fst = v1.fst) ∧
         (v'.fst < xs.length) ∧
         (v'.snd.snd ≤ (8 : Nat)) ∧
         (v'.snd.fst ≤ (4294967295 : Nat)) ∧
         (v'.snd.fst = iterN v'.snd.snd (crcR (List.take v'.fst xs) ^^^ (xs.getD v'.fst (0 : UInt8)).toNat))) ∧
        ((8 : Nat) - v'.snd.snd < (8 : Nat) - v5.snd.snd))
       (∀ (n10 : Int),
        (n10 = IntKind.i64.wrap ((↑v5.snd.snd : Int) + (1 : Int))) →
        ((-9223372036854775808 : Int) ≤ n10 ∧ n10 ≤ (9223372036854775807 : Int)) →
        ∃ (v' : Nat × Nat × Nat),
        (xs = xs) ∧
        (n7 = (↑v'.snd.fst : Int)) ∧
        ((↑v5.fst : Int) = (↑v'.fst : Int)) ∧
        (n10 = (↑v'.snd.snd : Int)) ∧
        (
         (v'.fst = v1.fst) ∧
         (v'.fst < xs.length) ∧
         (v'.snd.snd ≤ (8 : Nat)) ∧
         (v'.snd.fst ≤ (4294967295 : Nat)) ∧
         (v'.snd.fst = iterN v'.snd.snd (crcR (List.take v'.fst xs) ^^^ (xs.getD v'.fst (0 : UInt8)).toNat))) ∧
        ((8 : Nat) - v'.snd.snd < (8 : Nat) - v5.snd.snd)))
     (∀ (n11 : Int),
      (n11 = IntKind.i64.wrap ((↑v5.fst : Int) + (1 : Int))) →
      ((-9223372036854775808 : Int) ≤ n11 ∧ n11 ≤ (9223372036854775807 : Int)) →
      ∃ (v' : Nat × Nat),
      (xs = xs) ∧
      ((↑v5.snd.fst : Int) = (↑v'.snd : Int)) ∧
      (n11 = (↑v'.fst : Int)) ∧
      (
       (v'.fst ≤ xs.length) ∧
       (v'.snd ≤ (4294967295 : Nat)) ∧
       (v'.snd = crcR (List.take v'.fst xs))) ∧
      (xs.length - v'.fst < xs.length - v1.fst)))
   (∀ (n12 : Int),
    (n12 = bits BinOp.xor IntKind.u32 (4294967295 : Int) (↑v1.snd : Int)) →
    ((0 : Int) ≤ n12 ∧ n12 ≤ (4294967295 : Int)) →
    (k (AV.int IntKind.u32 n12) [] [])) := by
  refine ⟨?_, ?_⟩
  · -- left
    refine ⟨((0 : Nat), (4294967295 : Nat)), ?_⟩
    refine ⟨by with_reducible rfl, ?_⟩ -- xs = xs
    refine ⟨by show (4294967295 : Int) = (↑(4294967295 : Nat) : Int); omega, ?_⟩ -- (4294967295 : Int) = (↑(4294967295 : Nat) : Int)
    refine ⟨by show (0 : Int) = (↑(0 : Nat) : Int); omega, ?_⟩ -- (0 : Int) = (↑(0 : Nat) : Int)
    refine ⟨by show (0 : Nat) ≤ xs.length; omega, ?_⟩ -- (0 : Nat) ≤ xs.length
    refine ⟨by show (4294967295 : Nat) ≤ (4294967295 : Nat); omega, ?_⟩ -- (4294967295 : Nat) ≤ (4294967295 : Nat)
    exact by rfl -- (4294967295 : Nat) = crcR (List.take (0 : Nat) xs)
  intro v1
  intro h1 -- v1.fst ≤ xs.length ∧ v1.snd ≤ (4294967295 : Nat) ∧ v1.snd = crcR (List.take v1.fst xs)
  refine brd (fun c2 => ?_) (fun c2 => ?_) -- decide ((↑v1.fst : Int) < (↑xs.length : Int))
  · -- yes
    refine ⟨by omega, ?_⟩ -- (0 : Int) ≤ (↑v1.fst : Int)
    refine ⟨by assumption, ?_⟩ -- (↑v1.fst : Int) < (↑xs.length : Int)
    intro n2
    intro q2 -- n2 = (↑(UInt8.toNat (xs.getD (↑v1.fst : Int).toNat (dflt (0 : Nat)))) : Int)
    intro ⟨l2, u2⟩ -- (0 : Int) ≤ n2 ∧ n2 ≤ (255 : Int)
    intro n3
    intro q3 -- n3 = IntKind.u32.wrap n2
    rw [IntKind.wrap_u32] at q3
    intro ⟨l3, u3⟩ -- (0 : Int) ≤ n3 ∧ n3 ≤ (4294967295 : Int)
    intro n4
    intro q4 -- n4 = bits BinOp.xor IntKind.u32 (↑v1.snd : Int) n3
    rw [xor_u32 _ _ (by omega) (by omega) (by omega) (by omega)] at q4
    intro ⟨l4, u4⟩ -- (0 : Int) ≤ n4 ∧ n4 ≤ (4294967295 : Int)
    refine ⟨?_, ?_⟩
    · -- left
      refine ⟨(v1.fst, n4.toNat, (0 : Nat)), ?_⟩
      refine ⟨by with_reducible rfl, ?_⟩ -- xs = xs
      refine ⟨by show n4 = (↑n4.toNat : Int); omega, ?_⟩ -- n4 = (↑n4.toNat : Int)
      refine ⟨by with_reducible rfl, ?_⟩ -- (↑v1.fst : Int) = (↑v1.fst : Int)
      refine ⟨by show (0 : Int) = (↑(0 : Nat) : Int); omega, ?_⟩ -- (0 : Int) = (↑(0 : Nat) : Int)
      refine ⟨by with_reducible rfl, ?_⟩ -- v1.fst = v1.fst
      refine ⟨by show v1.fst < xs.length; omega, ?_⟩ -- v1.fst < xs.length
      refine ⟨by show (0 : Nat) ≤ (8 : Nat); omega, ?_⟩ -- (0 : Nat) ≤ (8 : Nat)
      refine ⟨by show n4.toNat ≤ (4294967295 : Nat); omega, ?_⟩ -- n4.toNat ≤ (4294967295 : Nat)
      -- n4.toNat = iterN (0 : Nat) (crcR (List.take v1.fst xs) ^^^ (xs.getD v1.fst (0 : UInt8)).toNat)
      have e3 : n3.toNat = (xs.getD v1.fst 0).toNat := by
        have : n2.toNat = (xs.getD v1.fst 0).toNat := by rw [q2]; rfl
        omega
      show n4.toNat = crcR (List.take v1.fst xs) ^^^ (xs.getD v1.fst 0).toNat
      rw [q4, ← h1.2.2, ← e3]
      rfl
    intro v5
    intro h3 -- v5.fst = v1.fst ∧ v5.fst < xs.length ∧ v5.snd.snd ≤ (8 : Nat) ∧ v5.snd.fst ≤ (4294967295 : Nat) ∧ v5.snd.fst = iterN v5.snd.snd (crcR (List.take v5.fst xs) ^^^ (xs.getD v5.fst (0 : UInt8)).toNat)
    refine brd (fun c4 => ?_) (fun c4 => ?_) -- decide ((↑v5.snd.snd : Int) < (8 : Int))
    · -- yes
      refine ⟨by omega, ?_⟩ -- (2 : Int) ≠ (0 : Int)
      intro n6
      intro q6 -- n6 = (↑v5.snd.fst : Int).tmod (2 : Int)
      rw [Int.tmod_eq_emod_of_nonneg (by omega)] at q6
      intro ⟨l6, u6⟩ -- (0 : Int) ≤ n6 ∧ n6 ≤ (4294967295 : Int)
      refine ⟨by omega, ?_⟩ -- (2 : Int) ≠ (0 : Int)
      intro n7
      intro q7 -- n7 = IntKind.u32.wrap ((↑v5.snd.fst : Int).tdiv (2 : Int))
      rw [Int.tdiv_eq_ediv_of_nonneg (by omega)] at q7
      rw [IntKind.wrap_u32] at q7
      intro ⟨l7, u7⟩ -- (0 : Int) ≤ n7 ∧ n7 ≤ (4294967295 : Int)
      refine br_intro (fun c5 => ?_) (fun c5 => ?_) -- n6 == (1 : Int)
      · -- yes
        intro n8
        intro q8 -- n8 = bits BinOp.xor IntKind.u32 n7 (3988292384 : Int)
        rw [xor_u32 _ _ (by omega) (by omega) (by omega) (by omega)] at q8
        intro ⟨l8, u8⟩ -- (0 : Int) ≤ n8 ∧ n8 ≤ (4294967295 : Int)
        intro n9
        intro q9 -- n9 = IntKind.i64.wrap ((↑v5.snd.snd : Int) + (1 : Int))
        rw [IntKind.wrap_i64] at q9
        intro ⟨l9, u9⟩ -- (-9223372036854775808 : Int) ≤ n9 ∧ n9 ≤ (9223372036854775807 : Int)
        refine ⟨(v5.fst, n8.toNat, v5.snd.snd + (1 : Nat)), ?_⟩
        refine ⟨by with_reducible rfl, ?_⟩ -- xs = xs
        refine ⟨by show n8 = (↑n8.toNat : Int); omega, ?_⟩ -- n8 = (↑n8.toNat : Int)
        refine ⟨by with_reducible rfl, ?_⟩ -- (↑v5.fst : Int) = (↑v5.fst : Int)
        refine ⟨by show n9 = (↑(v5.snd.snd + (1 : Nat)) : Int); omega, ?_⟩ -- n9 = (↑(v5.snd.snd + (1 : Nat)) : Int)
        refine ⟨?_, ?_⟩
        · -- left
          refine ⟨by show v5.fst = v1.fst; omega, ?_⟩ -- v5.fst = v1.fst
          refine ⟨by show v5.fst < xs.length; omega, ?_⟩ -- v5.fst < xs.length
          refine ⟨by show v5.snd.snd + (1 : Nat) ≤ (8 : Nat); omega, ?_⟩ -- v5.snd.snd + (1 : Nat) ≤ (8 : Nat)
          refine ⟨by show n8.toNat ≤ (4294967295 : Nat); omega, ?_⟩ -- n8.toNat ≤ (4294967295 : Nat)
          -- n8.toNat = iterN (v5.snd.snd + (1 : Nat)) (crcR (List.take v5.fst xs) ^^^ (xs.getD v5.fst (0 : UInt8)).toNat)
          show n8.toNat = bitN (iterN v5.snd.snd (crcR (List.take v5.fst xs) ^^^ (xs.getD v5.fst (0 : UInt8)).toNat))
          rw [← h3.2.2.2.2]
          have hc : n6 = 1 := by simpa using c5
          unfold bitN
          have e7 : n7.toNat = v5.snd.fst / 2 := by omega
          rw [if_pos (by omega), q8, ← e7]
          rfl
        exact by show (8 : Nat) - (v5.snd.snd + (1 : Nat)) < (8 : Nat) - v5.snd.snd; omega -- (8 : Nat) - (v5.snd.snd + (1 : Nat)) < (8 : Nat) - v5.snd.snd
      · -- no
        intro n10
        intro q10 -- n10 = IntKind.i64.wrap ((↑v5.snd.snd : Int) + (1 : Int))
        rw [IntKind.wrap_i64] at q10
        intro ⟨l10, u10⟩ -- (-9223372036854775808 : Int) ≤ n10 ∧ n10 ≤ (9223372036854775807 : Int)
        refine ⟨(v5.fst, n7.toNat, v5.snd.snd + (1 : Nat)), ?_⟩
        refine ⟨by with_reducible rfl, ?_⟩ -- xs = xs
        refine ⟨by show n7 = (↑n7.toNat : Int); omega, ?_⟩ -- n7 = (↑n7.toNat : Int)
        refine ⟨by with_reducible rfl, ?_⟩ -- (↑v5.fst : Int) = (↑v5.fst : Int)
        refine ⟨by show n10 = (↑(v5.snd.snd + (1 : Nat)) : Int); omega, ?_⟩ -- n10 = (↑(v5.snd.snd + (1 : Nat)) : Int)
        refine ⟨?_, ?_⟩
        · -- left
          refine ⟨by show v5.fst = v1.fst; omega, ?_⟩ -- v5.fst = v1.fst
          refine ⟨by show v5.fst < xs.length; omega, ?_⟩ -- v5.fst < xs.length
          refine ⟨by show v5.snd.snd + (1 : Nat) ≤ (8 : Nat); omega, ?_⟩ -- v5.snd.snd + (1 : Nat) ≤ (8 : Nat)
          refine ⟨by show n7.toNat ≤ (4294967295 : Nat); omega, ?_⟩ -- n7.toNat ≤ (4294967295 : Nat)
          -- n7.toNat = iterN (v5.snd.snd + (1 : Nat)) (crcR (List.take v5.fst xs) ^^^ (xs.getD v5.fst (0 : UInt8)).toNat)
          show n7.toNat = bitN (iterN v5.snd.snd (crcR (List.take v5.fst xs) ^^^ (xs.getD v5.fst (0 : UInt8)).toNat))
          rw [← h3.2.2.2.2]
          have hc : n6 ≠ 1 := by simpa using c5
          unfold bitN
          rw [if_neg (by omega)]
          omega
        exact by show (8 : Nat) - (v5.snd.snd + (1 : Nat)) < (8 : Nat) - v5.snd.snd; omega -- (8 : Nat) - (v5.snd.snd + (1 : Nat)) < (8 : Nat) - v5.snd.snd
    · -- no
      intro n11
      intro q11 -- n11 = IntKind.i64.wrap ((↑v5.fst : Int) + (1 : Int))
      rw [IntKind.wrap_i64] at q11
      intro ⟨l11, u11⟩ -- (-9223372036854775808 : Int) ≤ n11 ∧ n11 ≤ (9223372036854775807 : Int)
      refine ⟨(v5.fst + (1 : Nat), v5.snd.fst), ?_⟩
      refine ⟨by with_reducible rfl, ?_⟩ -- xs = xs
      refine ⟨by with_reducible rfl, ?_⟩ -- (↑v5.snd.fst : Int) = (↑v5.snd.fst : Int)
      refine ⟨by show n11 = (↑(v5.fst + (1 : Nat)) : Int); omega, ?_⟩ -- n11 = (↑(v5.fst + (1 : Nat)) : Int)
      refine ⟨?_, ?_⟩
      · -- left
        refine ⟨by show v5.fst + (1 : Nat) ≤ xs.length; omega, ?_⟩ -- v5.fst + (1 : Nat) ≤ xs.length
        refine ⟨by show v5.snd.fst ≤ (4294967295 : Nat); omega, ?_⟩ -- v5.snd.fst ≤ (4294967295 : Nat)
        -- v5.snd.fst = crcR (List.take (v5.fst + (1 : Nat)) xs)
        have h8 : v5.snd.snd = 8 := by omega
        have h9 := h3.2.2.2.2
        rw [h8] at h9
        rw [crcR_succ xs v5.fst (by omega)]
        exact h9
      exact by show xs.length - (v5.fst + (1 : Nat)) < xs.length - v1.fst; omega -- xs.length - (v5.fst + (1 : Nat)) < xs.length - v1.fst
  · -- no
    intro n12
    intro q12 -- n12 = bits BinOp.xor IntKind.u32 (4294967295 : Int) (↑v1.snd : Int)
    rw [xor_u32 _ _ (by omega) (by omega) (by omega) (by omega)] at q12
    intro ⟨l12, u12⟩ -- (0 : Int) ≤ n12 ∧ n12 ≤ (4294967295 : Int)
    -- k (AV.int IntKind.u32 n12) [] []
    have e : n12 = ((crcR xs ^^^ 4294967295 : Nat) : Int) := by
      rw [q12]
      have : v1.fst = xs.length := by omega
      rw [this, List.take_length] at h1
      rw [h1.2.2, Nat.xor_comm]
      rfl
    rw [e]; exact hk

theorem same_vc (xs : List UInt8) (ys : List UInt8) (k : AV → List (Option Blk) → List Blk → Prop) (hk : k (AV.bool (eqB xs ys)) [] []) :
  (k (AV.bool ({ data := xs.toArray : ByteArray }.toList == { data := ys.toArray : ByteArray }.toList)) [] []) := by
  -- k (AV.bool ({ data := xs.toArray : ByteArray }.toList == { data := ys.toArray : ByteArray }.toList)) [] []
  simpa [toList_mk, eqB] using hk

theorem sum_fn (xs : List UInt8) (k : AV → List (Option Blk) → List Blk → Prop) (hxs : xs.length ≤ 1000000) (hk : k (.int .u32 ((crcN xs ^^^ 4294967295 : Nat) : Int)) [] []) :
    Ok (fnVC { base with loops := sumLoops xs, cuts := fun _ _ => none } true Try.f9 [.sl 0 xs] k) := .cast (by kernel_rfl) (sum_vc xs k hxs hk)
theorem sum_ok : Holds base.P 9 sumS := by
  refine fn_sound (env := base) (fun _ _ h => by cases h) Try.func9 Try.call9 fun args k h => ?_
  match args, h with
  | [.sl 0 xs], h => exact ⟨by kernel_rfl, sumLoops xs, fun _ _ => none, sum_fn xs k h.1 h.2⟩
theorem refSum_fn (xs : List UInt8) (k : AV → List (Option Blk) → List Blk → Prop) (hxs : xs.length ≤ 1000000) (hk : k (.int .u32 ((crcR xs ^^^ 4294967295 : Nat) : Int)) [] []) :
    Ok (fnVC { base with loops := refSumLoops xs, cuts := fun _ _ => none } true Try.f10 [.sl 0 xs] k) := .cast (by kernel_rfl) (refSum_vc xs k hxs hk)
theorem refSum_ok : Holds base.P 10 refSumS := by
  refine fn_sound (env := base) (fun _ _ h => by cases h) Try.func10 Try.call10 fun args k h => ?_
  match args, h with
  | [.sl 0 xs], h => exact ⟨by kernel_rfl, refSumLoops xs, fun _ _ => none, refSum_fn xs k h.1 h.2⟩
theorem same_fn (xs ys : List UInt8) (k : AV → List (Option Blk) → List Blk → Prop) (hk : k (.bool (eqB xs ys)) [] []) :
    Ok (fnVC { base with loops := fun _ _ => none, cuts := fun _ _ => none } true Try.f11 [.sl 0 xs, .sl 0 ys] k) := .cast (by kernel_rfl) (same_vc xs ys k hk)
theorem same_ok : Holds base.P 11 sameS := by
  refine fn_sound (env := base) (fun _ _ h => by cases h) Try.func11 Try.call11 fun args k h => ?_
  match args, h with
  | [.sl 0 xs, .sl 0 ys], h => exact ⟨by kernel_rfl, _, fun _ _ => none, same_fn xs ys k h⟩
end Go.Proofs.Ytcccenipmefkiaa
