/-
What the chapter says of the device's names and numbers: the statement answers true.
-/
import Derived.Test.YtcdflgfhkohldaaSvB
import Derived.Test.YtcdflgfhkohldaaEngR
import Derived.Test.YtcdflgfhkohldaaEngY
import Derived.Test.YtcdflgfhkohldaaRows
namespace Go.Proofs.Ytcdflgfhkohldaa
open Go Go.Eng Go.Rw Go.Lk Go.Proofs
open Go.Bk hiding take_step drop_step set_mid
open Go.St hiding take_step
set_option linter.unusedVariables false
set_option maxHeartbeats 2000000 in
theorem storeNames_vc (k : AV → List (Option Blk) → List Blk → Prop) (hk : k (AV.bool true) [] []) :
 ∀ (e_1 : Int),
 ∀ (ys_2 : List UInt8),
 (e_1 = fmtE (4 : Int)) →
 (ys_2 = fmtO (4 : Int)) →
 ((0 : Int) ≤ e_1 ∧ e_1 ≤ (190 : Int)) →
 ∀ (e_6 : Int),
 ∀ (g_7 : Int),
 ∀ (m_8 : Int),
 ∀ (ps_9 : List Plan),
 (RdR ys_2 e_6 g_7 m_8 ps_9) →
 ((0 : Int) ≤ e_6 ∧ e_6 ≤ (190 : Int)) →
 ((0 : Int) ≤ g_7 ∧ g_7 ≤ (4611686018427387903 : Int)) →
 ((0 : Int) ≤ m_8 ∧ m_8 ≤ (3 : Int)) →
 (ps_9.length ≤ (8 : Nat)) →
 ∀ (e_15 : Int),
 ∀ (ys_16 : List UInt8),
 (e_15 = fmtE (1 : Int)) →
 (ys_16 = fmtO (1 : Int)) →
 ((0 : Int) ≤ e_15 ∧ e_15 ≤ (190 : Int)) →
 ∀ (e_20 : Int),
 ∀ (ys_21 : List UInt8),
 (e_20 = fmtE (65 : Int)) →
 (ys_21 = fmtO (65 : Int)) →
 ((0 : Int) ≤ e_20 ∧ e_20 ≤ (190 : Int)) →
 ∀ (l_25 : List Plan),
 (l_25 = one1) →
 (
 ((0 : Int) ≤ (2 : Int)) ∧
 ((2 : Int) ≤ (255 : Int))) ∧
 ∀ (e_27 : Int),
 ∀ (ps_28 : List Put),
 (PtR ys_2 (2 : Int) l_25 e_27 ps_28) →
 ((0 : Int) ≤ e_27 ∧ e_27 ≤ (190 : Int)) →
 (ps_28.length ≤ (32 : Nat)) →
 ∀ (n32 : Int),
 (n32 = (↑ps_28.length : Int)) →
 (
 ((bif bif !true then true else e_27 != (0 : Int) then true else n32 != (2 : Int)) = false) →
 ((0 : Int) ≤ (0 : Int)) ∧
 ((0 : Int) < (↑ps_28.length : Int))) ∧
 ∀ (n35 : Int),
 (n35 = (↑(ps_28.getD (Int.toNat (0 : Int)) (dflt (9 : Nat))).data.length : Int)) →
 br (bif bif bif !true then true else e_27 != (0 : Int) then true else n32 != (2 : Int) then true else n35 != (64 : Int))
 ((k (AV.bool false) [] []))
 (((0 : Int) ≤ (0 : Int)) ∧
  ((0 : Int) < (↑ps_28.length : Int)) ∧
  ∀ (n37 : Int),
  (n37 = (ps_28.getD (Int.toNat (0 : Int)) (dflt (9 : Nat))).n) →
  ((-9223372036854775808 : Int) ≤ n37 ∧ n37 ≤ (9223372036854775807 : Int)) →
  (
  ((n37 == (0 : Int)) = true) →
  ((0 : Int) ≤ (1 : Int)) ∧
  ((1 : Int) < (↑ps_28.length : Int))) ∧
  ∀ (n41 : Int),
  (n41 = (ps_28.getD (Int.toNat (1 : Int)) (dflt (9 : Nat))).n) →
  (
  ((bif n37 == (0 : Int) then n41 == (1 : Int) else false) = true) →
  ((0 : Int) ≤ (0 : Int)) ∧
  ((0 : Int) < (↑ps_28.length : Int))) ∧
  (
  ((bif n37 == (0 : Int) then n41 == (1 : Int) else false) = true) →
  ((0 : Int) ≤ (16 : Int)) ∧
  ((16 : Int) ≤ (↑(ps_28.getD (Int.toNat (0 : Int)) (dflt (9 : Nat))).data.length : Int))) ∧
  (
  ((bif bif n37 == (0 : Int) then n41 == (1 : Int) else false then { data := (List.take (Int.toNat (16 : Int)) (ps_28.getD (Int.toNat (0 : Int)) (dflt (9 : Nat))).data).toArray : ByteArray }.data.toList == { data := #[(1 : UInt8), (0 : UInt8), (0 : UInt8), (0 : UInt8), (0 : UInt8), (0 : UInt8), (0 : UInt8), (0 : UInt8), (6 : UInt8), (2 : UInt8), (1 : UInt8), (5 : UInt8), (0 : UInt8), (1 : UInt8), (5 : UInt8), (0 : UInt8)] : ByteArray }.data.toList else false) = true) →
  ((0 : Int) ≤ (1 : Int)) ∧
  ((1 : Int) < (↑ps_28.length : Int))) ∧
  (
  ((bif bif n37 == (0 : Int) then n41 == (1 : Int) else false then { data := (List.take (Int.toNat (16 : Int)) (ps_28.getD (Int.toNat (0 : Int)) (dflt (9 : Nat))).data).toArray : ByteArray }.data.toList == { data := #[(1 : UInt8), (0 : UInt8), (0 : UInt8), (0 : UInt8), (0 : UInt8), (0 : UInt8), (0 : UInt8), (0 : UInt8), (6 : UInt8), (2 : UInt8), (1 : UInt8), (5 : UInt8), (0 : UInt8), (1 : UInt8), (5 : UInt8), (0 : UInt8)] : ByteArray }.data.toList else false) = true) →
  ((0 : Int) ≤ (56 : Int)) ∧
  ((56 : Int) < (↑(ps_28.getD (Int.toNat (1 : Int)) (dflt (9 : Nat))).data.length : Int))) ∧
  ∀ (n47 : Int),
  (n47 = (↑((ps_28.getD (Int.toNat (1 : Int)) (dflt (9 : Nat))).data.getD (Int.toNat (56 : Int)) (0 : UInt8)).toNat : Int)) →
  (
  ∀ (l_49 : List Plan),
  (l_49 = one1) →
  (
   (
   (
    ((0 : Int) ≤ (2 : Int)) ∧
    ((2 : Int) ≤ (255 : Int))) ∧
   (ys_2.length ≤ (1000000 : Nat)) ∧
   ((-9223372036854775808 : Int) ≤ (9 : Int)) ∧
   ((9 : Int) ≤ (9223372036854775807 : Int))) ∧
   ∀ (n51 : List UInt8),
   ∀ (b_52 : Bool),
   (DnR ys_2 (2 : Int) l_49 (9 : Int) (0 : Int) n51 b_52) →
   (n51.length ≤ ys_2.length) →
   ∀ (l_55 : List Plan),
   (l_55 = one1) →
   (
   ((0 : Int) ≤ (2 : Int)) ∧
   ((2 : Int) ≤ (255 : Int))) ∧
   ∀ (e_57 : Int),
   ∀ (ps_58 : List Put),
   (PtR n51 (2 : Int) l_55 e_57 ps_58) →
   ((0 : Int) ≤ e_57 ∧ e_57 ≤ (190 : Int)) →
   (ps_58.length ≤ (32 : Nat)) →
   ∀ (n62 : Int),
   (n62 = (↑ps_58.length : Int)) →
   br (bif e_57 != (0 : Int) then true else n62 != (2 : Int))
   ((k (AV.bool false) [] []))
   (((0 : Int) ≤ (0 : Int)) ∧
    ((0 : Int) < (↑ps_58.length : Int)) ∧
    ∀ (n64 : Int),
    (n64 = (ps_58.getD (Int.toNat (0 : Int)) (dflt (9 : Nat))).n) →
    ((-9223372036854775808 : Int) ≤ n64 ∧ n64 ≤ (9223372036854775807 : Int)) →
    (
    ((n64 == (2 : Int)) = true) →
    ((0 : Int) ≤ (1 : Int)) ∧
    ((1 : Int) < (↑ps_58.length : Int))) ∧
    ∀ (n68 : Int),
    (n68 = (ps_58.getD (Int.toNat (1 : Int)) (dflt (9 : Nat))).n) →
    (
    ((bif n64 == (2 : Int) then n68 == (3 : Int) else false) = true) →
    ((0 : Int) ≤ (0 : Int)) ∧
    ((0 : Int) < (↑ps_58.length : Int))) ∧
    (
    ((bif n64 == (2 : Int) then n68 == (3 : Int) else false) = true) →
    ((0 : Int) ≤ (0 : Int)) ∧
    ((0 : Int) < (↑(ps_58.getD (Int.toNat (0 : Int)) (dflt (9 : Nat))).data.length : Int))) ∧
    ∀ (n72 : Int),
    (n72 = (↑((ps_58.getD (Int.toNat (0 : Int)) (dflt (9 : Nat))).data.getD (Int.toNat (0 : Int)) (0 : UInt8)).toNat : Int)) →
    (
    (
     ((0 : Int) ≤ (1 : Int)) ∧
     ((1 : Int) ≤ (255 : Int))) ∧
    (n51.length ≤ (1000000 : Nat)) ∧
    ((-9223372036854775808 : Int) ≤ (1 : Int)) ∧
    ((1 : Int) ≤ (9223372036854775807 : Int))) ∧
    ∀ (n74 : List UInt8),
    ∀ (b_75 : Bool),
    (DnR n51 (1 : Int) [] (1 : Int) (56 : Int) n74 b_75) →
    (n74.length ≤ n51.length) →
    (
    (
     ((0 : Int) ≤ (1 : Int)) ∧
     ((1 : Int) ≤ (255 : Int))) ∧
    (n51.length ≤ (1000000 : Nat)) ∧
    ((-9223372036854775808 : Int) ≤ (1 : Int)) ∧
    ((1 : Int) ≤ (9223372036854775807 : Int))) ∧
    ∀ (n78 : List UInt8),
    ∀ (b_79 : Bool),
    (DnR n51 (1 : Int) [] (1 : Int) (57 : Int) n78 b_79) →
    (n78.length ≤ n51.length) →
    ∀ (e_82 : Int),
    ∀ (g_83 : Int),
    ∀ (m_84 : Int),
    ∀ (ps_85 : List Plan),
    (RdR n74 e_82 g_83 m_84 ps_85) →
    ((0 : Int) ≤ e_82 ∧ e_82 ≤ (190 : Int)) →
    ((0 : Int) ≤ g_83 ∧ g_83 ≤ (4611686018427387903 : Int)) →
    ((0 : Int) ≤ m_84 ∧ m_84 ≤ (3 : Int)) →
    (ps_85.length ≤ (8 : Nat)) →
    ∀ (e_91 : Int),
    ∀ (g_92 : Int),
    ∀ (m_93 : Int),
    ∀ (ps_94 : List Plan),
    (RdR n78 e_91 g_92 m_93 ps_94) →
    ((0 : Int) ≤ e_91 ∧ e_91 ≤ (190 : Int)) →
    ((0 : Int) ≤ g_92 ∧ g_92 ≤ (4611686018427387903 : Int)) →
    ((0 : Int) ≤ m_93 ∧ m_93 ≤ (3 : Int)) →
    (ps_94.length ≤ (8 : Nat)) →
    (
    ((0 : Int) ≤ (4 : Int)) ∧
    ((4 : Int) ≤ (255 : Int))) ∧
    ∀ (e_100 : Int),
    ∀ (ps_101 : List Put),
    (PtR ys_2 (4 : Int) [] e_100 ps_101) →
    ((0 : Int) ≤ e_100 ∧ e_100 ≤ (190 : Int)) →
    (ps_101.length ≤ (32 : Nat)) →
    (
    ((0 : Int) ≤ (0 : Int)) ∧
    ((0 : Int) ≤ (255 : Int))) ∧
    ∀ (e_105 : Int),
    ∀ (ps_106 : List Put),
    (PtR ys_2 (0 : Int) (List.take (1 : Nat) (List.drop (0 : Nat) [{ cycle := (0 : Int), offset := (0 : Int), splits := [] : Plan }])) e_105 ps_106) →
    ((0 : Int) ≤ e_105 ∧ e_105 ≤ (190 : Int)) →
    (ps_106.length ≤ (32 : Nat)) →
    ∀ (e_110 : Int),
    ∀ (g_111 : Int),
    ∀ (m_112 : Int),
    ∀ (ps_113 : List Plan),
    (SlR ys_2 (2 : Int) e_110 g_111 m_112 ps_113) →
    ((0 : Int) ≤ e_110 ∧ e_110 ≤ (190 : Int)) →
    ((0 : Int) ≤ g_111 ∧ g_111 ≤ (4611686018427387903 : Int)) →
    ((0 : Int) ≤ m_112 ∧ m_112 ≤ (3 : Int)) →
    (ps_113.length ≤ (8 : Nat)) →
    ∀ (n119 : Int),
    (n119 = g_83) →
    ∀ (n121 : Int),
    (n121 = m_84) →
    ∀ (n123 : Int),
    (n123 = g_92) →
    ∀ (n125 : Int),
    (n125 = m_93) →
    (k (AV.bool (bif bif bif bif bif bif bif bif bif bif bif bif bif bif true then e_6 == (190 : Int) else false then e_15 == (190 : Int) else false then e_20 == (180 : Int) else false then bif bif bif n37 == (0 : Int) then n41 == (1 : Int) else false then { data := (List.take (Int.toNat (16 : Int)) (ps_28.getD (Int.toNat (0 : Int)) (dflt (9 : Nat))).data).toArray : ByteArray }.data.toList == { data := #[(1 : UInt8), (0 : UInt8), (0 : UInt8), (0 : UInt8), (0 : UInt8), (0 : UInt8), (0 : UInt8), (0 : UInt8), (6 : UInt8), (2 : UInt8), (1 : UInt8), (5 : UInt8), (0 : UInt8), (1 : UInt8), (5 : UInt8), (0 : UInt8)] : ByteArray }.data.toList else false then n47 == (1 : Int) else false else false then bif bif n64 == (2 : Int) then n68 == (3 : Int) else false then n72 == (2 : Int) else false else false then e_82 == (0 : Int) else false then n119 == (1 : Int) else false then n121 == (2 : Int) else false then e_91 == (0 : Int) else false then n123 == (2 : Int) else false then n125 == (1 : Int) else false then e_100 == (2 : Int) else false then e_105 == (170 : Int) else false then e_110 == (2 : Int) else false)) [] []))) ∧
  (
   (
   ((0 : Int) ≤ (2 : Int)) ∧
   ((2 : Int) ≤ (255 : Int))) ∧
   (ys_2.length ≤ (1000000 : Nat)) ∧
   ((-9223372036854775808 : Int) ≤ (9 : Int)) ∧
   ((9 : Int) ≤ (9223372036854775807 : Int))) ∧
  ∀ (n127 : List UInt8),
  ∀ (b_128 : Bool),
  (DnR ys_2 (2 : Int) l_49 (9 : Int) (0 : Int) n127 b_128) →
  (n127.length ≤ ys_2.length) →
  ∀ (l_131 : List Plan),
  (l_131 = one1) →
  (
   ((0 : Int) ≤ (2 : Int)) ∧
   ((2 : Int) ≤ (255 : Int))) ∧
  ∀ (e_133 : Int),
  ∀ (ps_134 : List Put),
  (PtR n127 (2 : Int) l_131 e_133 ps_134) →
  ((0 : Int) ≤ e_133 ∧ e_133 ≤ (190 : Int)) →
  (ps_134.length ≤ (32 : Nat)) →
  ∀ (n138 : Int),
  (n138 = (↑ps_134.length : Int)) →
  br (bif e_133 != (0 : Int) then true else n138 != (2 : Int))
   ((k (AV.bool false) [] []))
   (((0 : Int) ≤ (0 : Int)) ∧
   ((0 : Int) < (↑ps_134.length : Int)) ∧
   ∀ (n140 : Int),
   (n140 = (ps_134.getD (Int.toNat (0 : Int)) (dflt (9 : Nat))).n) →
   ((-9223372036854775808 : Int) ≤ n140 ∧ n140 ≤ (9223372036854775807 : Int)) →
   (
    ((n140 == (2 : Int)) = true) →
    ((0 : Int) ≤ (1 : Int)) ∧
    ((1 : Int) < (↑ps_134.length : Int))) ∧
   ∀ (n144 : Int),
   (n144 = (ps_134.getD (Int.toNat (1 : Int)) (dflt (9 : Nat))).n) →
   (
    ((bif n140 == (2 : Int) then n144 == (3 : Int) else false) = true) →
    ((0 : Int) ≤ (0 : Int)) ∧
    ((0 : Int) < (↑ps_134.length : Int))) ∧
   (
    ((bif n140 == (2 : Int) then n144 == (3 : Int) else false) = true) →
    ((0 : Int) ≤ (0 : Int)) ∧
    ((0 : Int) < (↑(ps_134.getD (Int.toNat (0 : Int)) (dflt (9 : Nat))).data.length : Int))) ∧
   ∀ (n148 : Int),
   (n148 = (↑((ps_134.getD (Int.toNat (0 : Int)) (dflt (9 : Nat))).data.getD (Int.toNat (0 : Int)) (0 : UInt8)).toNat : Int)) →
   (
    (
    ((0 : Int) ≤ (1 : Int)) ∧
    ((1 : Int) ≤ (255 : Int))) ∧
    (n127.length ≤ (1000000 : Nat)) ∧
    ((-9223372036854775808 : Int) ≤ (1 : Int)) ∧
    ((1 : Int) ≤ (9223372036854775807 : Int))) ∧
   ∀ (n150 : List UInt8),
   ∀ (b_151 : Bool),
   (DnR n127 (1 : Int) [] (1 : Int) (56 : Int) n150 b_151) →
   (n150.length ≤ n127.length) →
   (
    (
    ((0 : Int) ≤ (1 : Int)) ∧
    ((1 : Int) ≤ (255 : Int))) ∧
    (n127.length ≤ (1000000 : Nat)) ∧
    ((-9223372036854775808 : Int) ≤ (1 : Int)) ∧
    ((1 : Int) ≤ (9223372036854775807 : Int))) ∧
   ∀ (n154 : List UInt8),
   ∀ (b_155 : Bool),
   (DnR n127 (1 : Int) [] (1 : Int) (57 : Int) n154 b_155) →
   (n154.length ≤ n127.length) →
   ∀ (e_158 : Int),
   ∀ (g_159 : Int),
   ∀ (m_160 : Int),
   ∀ (ps_161 : List Plan),
   (RdR n150 e_158 g_159 m_160 ps_161) →
   ((0 : Int) ≤ e_158 ∧ e_158 ≤ (190 : Int)) →
   ((0 : Int) ≤ g_159 ∧ g_159 ≤ (4611686018427387903 : Int)) →
   ((0 : Int) ≤ m_160 ∧ m_160 ≤ (3 : Int)) →
   (ps_161.length ≤ (8 : Nat)) →
   ∀ (e_167 : Int),
   ∀ (g_168 : Int),
   ∀ (m_169 : Int),
   ∀ (ps_170 : List Plan),
   (RdR n154 e_167 g_168 m_169 ps_170) →
   ((0 : Int) ≤ e_167 ∧ e_167 ≤ (190 : Int)) →
   ((0 : Int) ≤ g_168 ∧ g_168 ≤ (4611686018427387903 : Int)) →
   ((0 : Int) ≤ m_169 ∧ m_169 ≤ (3 : Int)) →
   (ps_170.length ≤ (8 : Nat)) →
   (
    ((0 : Int) ≤ (4 : Int)) ∧
    ((4 : Int) ≤ (255 : Int))) ∧
   ∀ (e_176 : Int),
   ∀ (ps_177 : List Put),
   (PtR ys_2 (4 : Int) [] e_176 ps_177) →
   ((0 : Int) ≤ e_176 ∧ e_176 ≤ (190 : Int)) →
   (ps_177.length ≤ (32 : Nat)) →
   (
    ((0 : Int) ≤ (0 : Int)) ∧
    ((0 : Int) ≤ (255 : Int))) ∧
   ∀ (e_181 : Int),
   ∀ (ps_182 : List Put),
   (PtR ys_2 (0 : Int) (List.take (1 : Nat) (List.drop (0 : Nat) [{ cycle := (0 : Int), offset := (0 : Int), splits := [] : Plan }])) e_181 ps_182) →
   ((0 : Int) ≤ e_181 ∧ e_181 ≤ (190 : Int)) →
   (ps_182.length ≤ (32 : Nat)) →
   ∀ (e_186 : Int),
   ∀ (g_187 : Int),
   ∀ (m_188 : Int),
   ∀ (ps_189 : List Plan),
   (SlR ys_2 (2 : Int) e_186 g_187 m_188 ps_189) →
   ((0 : Int) ≤ e_186 ∧ e_186 ≤ (190 : Int)) →
   ((0 : Int) ≤ g_187 ∧ g_187 ≤ (4611686018427387903 : Int)) →
   ((0 : Int) ≤ m_188 ∧ m_188 ≤ (3 : Int)) →
   (ps_189.length ≤ (8 : Nat)) →
   ∀ (n195 : Int),
   (n195 = g_159) →
   ∀ (n197 : Int),
   (n197 = m_160) →
   ∀ (n199 : Int),
   (n199 = g_168) →
   ∀ (n201 : Int),
   (n201 = m_169) →
   (k (AV.bool (bif bif bif bif bif bif bif bif bif bif bif bif bif bif true then e_6 == (190 : Int) else false then e_15 == (190 : Int) else false then e_20 == (180 : Int) else false then bif bif bif n37 == (0 : Int) then n41 == (1 : Int) else false then { data := (List.take (Int.toNat (16 : Int)) (ps_28.getD (Int.toNat (0 : Int)) (dflt (9 : Nat))).data).toArray : ByteArray }.data.toList == { data := #[(1 : UInt8), (0 : UInt8), (0 : UInt8), (0 : UInt8), (0 : UInt8), (0 : UInt8), (0 : UInt8), (0 : UInt8), (6 : UInt8), (2 : UInt8), (1 : UInt8), (5 : UInt8), (0 : UInt8), (1 : UInt8), (5 : UInt8), (0 : UInt8)] : ByteArray }.data.toList else false then n47 == (1 : Int) else false else false then bif bif n140 == (2 : Int) then n144 == (3 : Int) else false then n148 == (2 : Int) else false else false then e_158 == (0 : Int) else false then n195 == (1 : Int) else false then n197 == (2 : Int) else false then e_167 == (0 : Int) else false then n199 == (2 : Int) else false then n201 == (1 : Int) else false then e_176 == (2 : Int) else false then e_181 == (170 : Int) else false then e_186 == (2 : Int) else false)) [] []))) ∧
  ∀ (l_203 : List Plan),
  (l_203 = one1) →
  (
  (
   ((0 : Int) ≤ (2 : Int)) ∧
   ((2 : Int) ≤ (255 : Int))) ∧
  (ys_2.length ≤ (1000000 : Nat)) ∧
  ((-9223372036854775808 : Int) ≤ (9 : Int)) ∧
  ((9 : Int) ≤ (9223372036854775807 : Int))) ∧
  ∀ (n205 : List UInt8),
  ∀ (b_206 : Bool),
  (DnR ys_2 (2 : Int) l_203 (9 : Int) (0 : Int) n205 b_206) →
  (n205.length ≤ ys_2.length) →
  ∀ (l_209 : List Plan),
  (l_209 = one1) →
  (
  ((0 : Int) ≤ (2 : Int)) ∧
  ((2 : Int) ≤ (255 : Int))) ∧
  ∀ (e_211 : Int),
  ∀ (ps_212 : List Put),
  (PtR n205 (2 : Int) l_209 e_211 ps_212) →
  ((0 : Int) ≤ e_211 ∧ e_211 ≤ (190 : Int)) →
  (ps_212.length ≤ (32 : Nat)) →
  ∀ (n216 : Int),
  (n216 = (↑ps_212.length : Int)) →
  br (bif e_211 != (0 : Int) then true else n216 != (2 : Int))
  ((k (AV.bool false) [] []))
  (((0 : Int) ≤ (0 : Int)) ∧
   ((0 : Int) < (↑ps_212.length : Int)) ∧
   ∀ (n218 : Int),
   (n218 = (ps_212.getD (Int.toNat (0 : Int)) (dflt (9 : Nat))).n) →
   ((-9223372036854775808 : Int) ≤ n218 ∧ n218 ≤ (9223372036854775807 : Int)) →
   (
   ((n218 == (2 : Int)) = true) →
   ((0 : Int) ≤ (1 : Int)) ∧
   ((1 : Int) < (↑ps_212.length : Int))) ∧
   ∀ (n222 : Int),
   (n222 = (ps_212.getD (Int.toNat (1 : Int)) (dflt (9 : Nat))).n) →
   (
   ((bif n218 == (2 : Int) then n222 == (3 : Int) else false) = true) →
   ((0 : Int) ≤ (0 : Int)) ∧
   ((0 : Int) < (↑ps_212.length : Int))) ∧
   (
   ((bif n218 == (2 : Int) then n222 == (3 : Int) else false) = true) →
   ((0 : Int) ≤ (0 : Int)) ∧
   ((0 : Int) < (↑(ps_212.getD (Int.toNat (0 : Int)) (dflt (9 : Nat))).data.length : Int))) ∧
   ∀ (n226 : Int),
   (n226 = (↑((ps_212.getD (Int.toNat (0 : Int)) (dflt (9 : Nat))).data.getD (Int.toNat (0 : Int)) (0 : UInt8)).toNat : Int)) →
   (
   (
    ((0 : Int) ≤ (1 : Int)) ∧
    ((1 : Int) ≤ (255 : Int))) ∧
   (n205.length ≤ (1000000 : Nat)) ∧
   ((-9223372036854775808 : Int) ≤ (1 : Int)) ∧
   ((1 : Int) ≤ (9223372036854775807 : Int))) ∧
   ∀ (n228 : List UInt8),
   ∀ (b_229 : Bool),
   (DnR n205 (1 : Int) [] (1 : Int) (56 : Int) n228 b_229) →
   (n228.length ≤ n205.length) →
   (
   (
    ((0 : Int) ≤ (1 : Int)) ∧
    ((1 : Int) ≤ (255 : Int))) ∧
   (n205.length ≤ (1000000 : Nat)) ∧
   ((-9223372036854775808 : Int) ≤ (1 : Int)) ∧
   ((1 : Int) ≤ (9223372036854775807 : Int))) ∧
   ∀ (n232 : List UInt8),
   ∀ (b_233 : Bool),
   (DnR n205 (1 : Int) [] (1 : Int) (57 : Int) n232 b_233) →
   (n232.length ≤ n205.length) →
   ∀ (e_236 : Int),
   ∀ (g_237 : Int),
   ∀ (m_238 : Int),
   ∀ (ps_239 : List Plan),
   (RdR n228 e_236 g_237 m_238 ps_239) →
   ((0 : Int) ≤ e_236 ∧ e_236 ≤ (190 : Int)) →
   ((0 : Int) ≤ g_237 ∧ g_237 ≤ (4611686018427387903 : Int)) →
   ((0 : Int) ≤ m_238 ∧ m_238 ≤ (3 : Int)) →
   (ps_239.length ≤ (8 : Nat)) →
   ∀ (e_245 : Int),
   ∀ (g_246 : Int),
   ∀ (m_247 : Int),
   ∀ (ps_248 : List Plan),
   (RdR n232 e_245 g_246 m_247 ps_248) →
   ((0 : Int) ≤ e_245 ∧ e_245 ≤ (190 : Int)) →
   ((0 : Int) ≤ g_246 ∧ g_246 ≤ (4611686018427387903 : Int)) →
   ((0 : Int) ≤ m_247 ∧ m_247 ≤ (3 : Int)) →
   (ps_248.length ≤ (8 : Nat)) →
   (
   ((0 : Int) ≤ (4 : Int)) ∧
   ((4 : Int) ≤ (255 : Int))) ∧
   ∀ (e_254 : Int),
   ∀ (ps_255 : List Put),
   (PtR ys_2 (4 : Int) [] e_254 ps_255) →
   ((0 : Int) ≤ e_254 ∧ e_254 ≤ (190 : Int)) →
   (ps_255.length ≤ (32 : Nat)) →
   (
   ((0 : Int) ≤ (0 : Int)) ∧
   ((0 : Int) ≤ (255 : Int))) ∧
   ∀ (e_259 : Int),
   ∀ (ps_260 : List Put),
   (PtR ys_2 (0 : Int) (List.take (1 : Nat) (List.drop (0 : Nat) [{ cycle := (0 : Int), offset := (0 : Int), splits := [] : Plan }])) e_259 ps_260) →
   ((0 : Int) ≤ e_259 ∧ e_259 ≤ (190 : Int)) →
   (ps_260.length ≤ (32 : Nat)) →
   ∀ (e_264 : Int),
   ∀ (g_265 : Int),
   ∀ (m_266 : Int),
   ∀ (ps_267 : List Plan),
   (SlR ys_2 (2 : Int) e_264 g_265 m_266 ps_267) →
   ((0 : Int) ≤ e_264 ∧ e_264 ≤ (190 : Int)) →
   ((0 : Int) ≤ g_265 ∧ g_265 ≤ (4611686018427387903 : Int)) →
   ((0 : Int) ≤ m_266 ∧ m_266 ≤ (3 : Int)) →
   (ps_267.length ≤ (8 : Nat)) →
   ∀ (n273 : Int),
   (n273 = g_237) →
   ∀ (n275 : Int),
   (n275 = m_238) →
   ∀ (n277 : Int),
   (n277 = g_246) →
   ∀ (n279 : Int),
   (n279 = m_247) →
   (k (AV.bool (bif bif bif bif bif bif bif bif bif bif bif bif bif bif true then e_6 == (190 : Int) else false then e_15 == (190 : Int) else false then e_20 == (180 : Int) else false then bif bif bif n37 == (0 : Int) then n41 == (1 : Int) else false then { data := (List.take (Int.toNat (16 : Int)) (ps_28.getD (Int.toNat (0 : Int)) (dflt (9 : Nat))).data).toArray : ByteArray }.data.toList == { data := #[(1 : UInt8), (0 : UInt8), (0 : UInt8), (0 : UInt8), (0 : UInt8), (0 : UInt8), (0 : UInt8), (0 : UInt8), (6 : UInt8), (2 : UInt8), (1 : UInt8), (5 : UInt8), (0 : UInt8), (1 : UInt8), (5 : UInt8), (0 : UInt8)] : ByteArray }.data.toList else false then n47 == (1 : Int) else false else false then bif bif n218 == (2 : Int) then n222 == (3 : Int) else false then n226 == (2 : Int) else false else false then e_236 == (0 : Int) else false then n273 == (1 : Int) else false then n275 == (2 : Int) else false then e_245 == (0 : Int) else false then n277 == (2 : Int) else false then n279 == (1 : Int) else false then e_254 == (2 : Int) else false then e_259 == (170 : Int) else false then e_264 == (2 : Int) else false)) [] []))) := by
 intro e_1
 intro ys_2
 intro h1
 intro h2
 intro ⟨a3, b3⟩
 intro e_6
 intro g_7
 intro m_8
 intro ps_9
 intro h4
 intro ⟨a5, b5⟩
 intro ⟨a6, b6⟩
 intro ⟨a7, b7⟩
 intro h8
 intro e_15
 intro ys_16
 intro h9
 intro h10
 intro ⟨a11, b11⟩
 intro e_20
 intro ys_21
 intro h12
 intro h13
 intro ⟨a14, b14⟩
 intro l_25
 intro h15
 refine ⟨by first | omega | (dsimp only; omega), ?_⟩
 intro e_27
 intro ps_28
 intro h16
 intro ⟨a17, b17⟩
 intro h18
 intro n32
 intro q32
 refine ⟨?_, ?_⟩
 ·
  intro q32
  simp at q32
  refine ⟨by first | omega | (dsimp only; omega), ?_⟩
  exact by omega
 intro n35
 intro q35
 refine br_intro (fun c19 => ?_) (fun c19 => ?_)
 ·
  simp at c19
  have hy : ys_2 = List.replicate 256 0 := h2.trans fmt4
  have hP1 := h16
  rw [hy, h15] at hP1
  obtain ⟨x1, x2, x3, x4, x5, x6, x7, x8⟩ := first_x hP1 (dflt 9)
  omega
 ·
  simp at c19
  refine ⟨by first | omega | (dsimp only; omega), ?_⟩
  refine ⟨by first | omega | (dsimp only; omega), ?_⟩
  intro n37
  intro q37
  intro ⟨l37, u37⟩
  refine ⟨?_, ?_⟩
  ·
   intro h20
   simp at h20
   refine ⟨by first | omega | (dsimp only; omega), ?_⟩
   exact by omega
  intro n41
  intro q41
  refine ⟨?_, ?_⟩
  ·
   intro q41
   simp at q41
   refine ⟨by first | omega | (dsimp only; omega), ?_⟩
   exact by omega
  refine ⟨?_, ?_⟩
  ·
   intro q41
   simp at q41
   refine ⟨by first | omega | (dsimp only; omega), ?_⟩
   exact by omega
  refine ⟨?_, ?_⟩
  ·
   intro q41
   simp at q41
   refine ⟨by first | omega | (dsimp only; omega), ?_⟩
   exact by omega
  refine ⟨?_, ?_⟩
  ·
   intro q41
   simp at q41
   refine ⟨by first | omega | (dsimp only; omega), ?_⟩
   have hy : ys_2 = List.replicate 256 0 := h2.trans fmt4
   have hP1 := h16
   rw [hy, h15] at hP1
   obtain ⟨x1, x2, x3, x4, x5, x6, x7, x8⟩ := first_x hP1 (dflt 9)
   omega
  intro n47
  intro q47
  refine ⟨?_, ?_⟩
  ·
   intro l_49
   intro h21
   refine ⟨?_, ?_⟩
   ·
    refine ⟨?_, ?_⟩
    ·
     refine ⟨by first | omega | (dsimp only; omega), ?_⟩
     have h22 : ys_2.length ≤ (1000000 : Nat) := by
      have hy : ys_2 = List.replicate 256 0 := h2.trans fmt4
      rw [hy, List.length_replicate]
      decide
     refine ⟨h22, ?_⟩
     refine ⟨by first | omega | (dsimp only; omega), ?_⟩
     exact by omega
    intro n51
    intro b_52
    intro h23
    intro h24
    intro l_55
    intro h25
    refine ⟨by first | omega | (dsimp only; omega), ?_⟩
    intro e_57
    intro ps_58
    intro h26
    intro ⟨a27, b27⟩
    intro h28
    intro n62
    intro q62
    refine br_intro (fun c29 => ?_) (fun c29 => ?_)
    ·
     simp at c29
     have hy : ys_2 = List.replicate 256 0 := h2.trans fmt4
     have hP1 := h16
     rw [hy, h15] at hP1
     obtain ⟨x1, x2, x3, x4, x5, x6, x7, x8⟩ := first_x hP1 (dflt 9)
     have hD1 := h23
     rw [hy, h21] at hD1
     obtain ⟨-, dv⟩ := done_first (by decide) hD1
     have hP2 := h26
     rw [h25] at hP2
     obtain ⟨y1, y2, y3, y4, y5, y6⟩ := second_x dv hP2 (dflt 9)
     omega
    ·
     simp at c29
     refine ⟨by first | omega | (dsimp only; omega), ?_⟩
     refine ⟨by first | omega | (dsimp only; omega), ?_⟩
     intro n64
     intro q64
     intro ⟨l64, u64⟩
     refine ⟨?_, ?_⟩
     ·
      intro h30
      simp at h30
      refine ⟨by first | omega | (dsimp only; omega), ?_⟩
      exact by omega
     intro n68
     intro q68
     refine ⟨?_, ?_⟩
     ·
      intro q68
      simp at q68
      refine ⟨by first | omega | (dsimp only; omega), ?_⟩
      exact by omega
     refine ⟨?_, ?_⟩
     ·
      intro q68
      simp at q68
      refine ⟨by first | omega | (dsimp only; omega), ?_⟩
      have hy : ys_2 = List.replicate 256 0 := h2.trans fmt4
      have hP1 := h16
      rw [hy, h15] at hP1
      obtain ⟨x1, x2, x3, x4, x5, x6, x7, x8⟩ := first_x hP1 (dflt 9)
      have hD1 := h23
      rw [hy, h21] at hD1
      obtain ⟨-, dv⟩ := done_first (by decide) hD1
      have hP2 := h26
      rw [h25] at hP2
      obtain ⟨y1, y2, y3, y4, y5, y6⟩ := second_x dv hP2 (dflt 9)
      omega
     intro n72
     intro q72
     refine ⟨?_, ?_⟩
     ·
      refine ⟨by first | omega | (dsimp only; omega), ?_⟩
      have h31 : n51.length ≤ (1000000 : Nat) := by
       have hy : ys_2 = List.replicate 256 0 := h2.trans fmt4
       have hD1 := h23
       rw [hy, h21] at hD1
       obtain ⟨-, dv⟩ := done_first (by decide) hD1
       rw [dv.l]
       decide
      refine ⟨h31, ?_⟩
      refine ⟨by first | omega | (dsimp only; omega), ?_⟩
      exact by omega
     intro n74
     intro b_75
     intro h32
     intro h33
     refine ⟨?_, ?_⟩
     ·
      refine ⟨by first | omega | (dsimp only; omega), ?_⟩
      have h34 : n51.length ≤ (1000000 : Nat) := by
       have hy : ys_2 = List.replicate 256 0 := h2.trans fmt4
       have hD1 := h23
       rw [hy, h21] at hD1
       obtain ⟨-, dv⟩ := done_first (by decide) hD1
       rw [dv.l]
       decide
      refine ⟨h34, ?_⟩
      refine ⟨by first | omega | (dsimp only; omega), ?_⟩
      exact by omega
     intro n78
     intro b_79
     intro h35
     intro h36
     intro e_82
     intro g_83
     intro m_84
     intro ps_85
     intro h37
     intro ⟨a38, b38⟩
     intro ⟨a39, b39⟩
     intro ⟨a40, b40⟩
     intro h41
     intro e_91
     intro g_92
     intro m_93
     intro ps_94
     intro h42
     intro ⟨a43, b43⟩
     intro ⟨a44, b44⟩
     intro ⟨a45, b45⟩
     intro h46
     refine ⟨by first | omega | (dsimp only; omega), ?_⟩
     intro e_100
     intro ps_101
     intro h47
     intro ⟨a48, b48⟩
     intro h49
     refine ⟨by first | omega | (dsimp only; omega), ?_⟩
     intro e_105
     intro ps_106
     intro h50
     intro ⟨a51, b51⟩
     intro h52
     intro e_110
     intro g_111
     intro m_112
     intro ps_113
     intro h53
     intro ⟨a54, b54⟩
     intro ⟨a55, b55⟩
     intro ⟨a56, b56⟩
     intro h57
     intro n119
     intro q119
     intro n121
     intro q121
     intro n123
     intro q123
     intro n125
     intro q125
     have hy : ys_2 = List.replicate 256 0 := h2.trans fmt4
     have hP1 := h16
     rw [hy, h15] at hP1
     obtain ⟨x1, x2, x3, x4, x5, x6, x7, x8⟩ := first_x hP1 (dflt 9)
     have hD1 := h23
     rw [hy, h21] at hD1
     obtain ⟨-, dv⟩ := done_first (by decide) hD1
     have hP2 := h26
     rw [h25] at hP2
     obtain ⟨y1, y2, y3, y4, y5, y6⟩ := second_x dv hP2 (dflt 9)
     obtain ⟨u1, u2, u3, -⟩ := h37.uniq (torn_56 dv h32)
     obtain ⟨w1, w2, w3, -⟩ := h42.uniq (torn_57 dv h35)
     have hR := h4
     rw [hy] at hR
     have s1 := read_4 hR
     have hQ := h47
     rw [hy] at hQ
     have s2 := put_4 hQ
     have hZ := h50
     rw [hy] at hZ
     have s3 := put_z hZ
     have hS := h53
     rw [hy] at hS
     have s4 := slot_2 hS
     have s5 := h9.trans fmt1
     have s6 := h12.trans fmt65
     have v0 : e_6 = 190 := by omega
     have v1 : e_15 = 190 := by omega
     have v2 : e_20 = 180 := by omega
     have v3 : n37 = 0 := by omega
     have v4 : n41 = 1 := by omega
     have v5 : n47 = 1 := by omega
     have v6 : n64 = 2 := by omega
     have v7 : n68 = 3 := by omega
     have v8 : n72 = 2 := by omega
     have v9 : e_82 = 0 := by omega
     have v10 : n119 = 1 := by omega
     have v11 : n121 = 2 := by omega
     have v12 : e_91 = 0 := by omega
     have v13 : n123 = 2 := by omega
     have v14 : n125 = 1 := by omega
     have v15 : e_100 = 2 := by omega
     have v16 : e_105 = 170 := by omega
     have v17 : e_110 = 2 := by omega
     rw [v0, v1, v2, v3, v4, v5, v6, v7, v8, v9, v10, v11, v12, v13, v14, v15, v16, v17, x7]
     exact hk
   refine ⟨?_, ?_⟩
   ·
    refine ⟨by first | omega | (dsimp only; omega), ?_⟩
    have h58 : ys_2.length ≤ (1000000 : Nat) := by
     have hy : ys_2 = List.replicate 256 0 := h2.trans fmt4
     rw [hy, List.length_replicate]
     decide
    refine ⟨h58, ?_⟩
    refine ⟨by first | omega | (dsimp only; omega), ?_⟩
    exact by omega
   intro n127
   intro b_128
   intro h59
   intro h60
   intro l_131
   intro h61
   refine ⟨by first | omega | (dsimp only; omega), ?_⟩
   intro e_133
   intro ps_134
   intro h62
   intro ⟨a63, b63⟩
   intro h64
   intro n138
   intro q138
   refine br_intro (fun c65 => ?_) (fun c65 => ?_)
   ·
    simp at c65
    have hy : ys_2 = List.replicate 256 0 := h2.trans fmt4
    have hP1 := h16
    rw [hy, h15] at hP1
    obtain ⟨x1, x2, x3, x4, x5, x6, x7, x8⟩ := first_x hP1 (dflt 9)
    have hD1 := h59
    rw [hy, h21] at hD1
    obtain ⟨-, dv⟩ := done_first (by decide) hD1
    have hP2 := h62
    rw [h61] at hP2
    obtain ⟨y1, y2, y3, y4, y5, y6⟩ := second_x dv hP2 (dflt 9)
    omega
   ·
    simp at c65
    refine ⟨by first | omega | (dsimp only; omega), ?_⟩
    refine ⟨by first | omega | (dsimp only; omega), ?_⟩
    intro n140
    intro q140
    intro ⟨l140, u140⟩
    refine ⟨?_, ?_⟩
    ·
     intro h66
     simp at h66
     refine ⟨by first | omega | (dsimp only; omega), ?_⟩
     exact by omega
    intro n144
    intro q144
    refine ⟨?_, ?_⟩
    ·
     intro q144
     simp at q144
     refine ⟨by first | omega | (dsimp only; omega), ?_⟩
     exact by omega
    refine ⟨?_, ?_⟩
    ·
     intro q144
     simp at q144
     refine ⟨by first | omega | (dsimp only; omega), ?_⟩
     have hy : ys_2 = List.replicate 256 0 := h2.trans fmt4
     have hP1 := h16
     rw [hy, h15] at hP1
     obtain ⟨x1, x2, x3, x4, x5, x6, x7, x8⟩ := first_x hP1 (dflt 9)
     have hD1 := h59
     rw [hy, h21] at hD1
     obtain ⟨-, dv⟩ := done_first (by decide) hD1
     have hP2 := h62
     rw [h61] at hP2
     obtain ⟨y1, y2, y3, y4, y5, y6⟩ := second_x dv hP2 (dflt 9)
     omega
    intro n148
    intro q148
    refine ⟨?_, ?_⟩
    ·
     refine ⟨by first | omega | (dsimp only; omega), ?_⟩
     have h67 : n127.length ≤ (1000000 : Nat) := by
      have hy : ys_2 = List.replicate 256 0 := h2.trans fmt4
      have hD1 := h59
      rw [hy, h21] at hD1
      obtain ⟨-, dv⟩ := done_first (by decide) hD1
      rw [dv.l]
      decide
     refine ⟨h67, ?_⟩
     refine ⟨by first | omega | (dsimp only; omega), ?_⟩
     exact by omega
    intro n150
    intro b_151
    intro h68
    intro h69
    refine ⟨?_, ?_⟩
    ·
     refine ⟨by first | omega | (dsimp only; omega), ?_⟩
     have h70 : n127.length ≤ (1000000 : Nat) := by
      have hy : ys_2 = List.replicate 256 0 := h2.trans fmt4
      have hD1 := h59
      rw [hy, h21] at hD1
      obtain ⟨-, dv⟩ := done_first (by decide) hD1
      rw [dv.l]
      decide
     refine ⟨h70, ?_⟩
     refine ⟨by first | omega | (dsimp only; omega), ?_⟩
     exact by omega
    intro n154
    intro b_155
    intro h71
    intro h72
    intro e_158
    intro g_159
    intro m_160
    intro ps_161
    intro h73
    intro ⟨a74, b74⟩
    intro ⟨a75, b75⟩
    intro ⟨a76, b76⟩
    intro h77
    intro e_167
    intro g_168
    intro m_169
    intro ps_170
    intro h78
    intro ⟨a79, b79⟩
    intro ⟨a80, b80⟩
    intro ⟨a81, b81⟩
    intro h82
    refine ⟨by first | omega | (dsimp only; omega), ?_⟩
    intro e_176
    intro ps_177
    intro h83
    intro ⟨a84, b84⟩
    intro h85
    refine ⟨by first | omega | (dsimp only; omega), ?_⟩
    intro e_181
    intro ps_182
    intro h86
    intro ⟨a87, b87⟩
    intro h88
    intro e_186
    intro g_187
    intro m_188
    intro ps_189
    intro h89
    intro ⟨a90, b90⟩
    intro ⟨a91, b91⟩
    intro ⟨a92, b92⟩
    intro h93
    intro n195
    intro q195
    intro n197
    intro q197
    intro n199
    intro q199
    intro n201
    intro q201
    have hy : ys_2 = List.replicate 256 0 := h2.trans fmt4
    have hP1 := h16
    rw [hy, h15] at hP1
    obtain ⟨x1, x2, x3, x4, x5, x6, x7, x8⟩ := first_x hP1 (dflt 9)
    have hD1 := h59
    rw [hy, h21] at hD1
    obtain ⟨-, dv⟩ := done_first (by decide) hD1
    have hP2 := h62
    rw [h61] at hP2
    obtain ⟨y1, y2, y3, y4, y5, y6⟩ := second_x dv hP2 (dflt 9)
    obtain ⟨u1, u2, u3, -⟩ := h73.uniq (torn_56 dv h68)
    obtain ⟨w1, w2, w3, -⟩ := h78.uniq (torn_57 dv h71)
    have hR := h4
    rw [hy] at hR
    have s1 := read_4 hR
    have hQ := h83
    rw [hy] at hQ
    have s2 := put_4 hQ
    have hZ := h86
    rw [hy] at hZ
    have s3 := put_z hZ
    have hS := h89
    rw [hy] at hS
    have s4 := slot_2 hS
    have s5 := h9.trans fmt1
    have s6 := h12.trans fmt65
    have v0 : e_6 = 190 := by omega
    have v1 : e_15 = 190 := by omega
    have v2 : e_20 = 180 := by omega
    have v3 : n37 = 0 := by omega
    have v4 : n41 = 1 := by omega
    have v5 : n47 = 1 := by omega
    have v6 : n140 = 2 := by omega
    have v7 : n144 = 3 := by omega
    have v8 : n148 = 2 := by omega
    have v9 : e_158 = 0 := by omega
    have v10 : n195 = 1 := by omega
    have v11 : n197 = 2 := by omega
    have v12 : e_167 = 0 := by omega
    have v13 : n199 = 2 := by omega
    have v14 : n201 = 1 := by omega
    have v15 : e_176 = 2 := by omega
    have v16 : e_181 = 170 := by omega
    have v17 : e_186 = 2 := by omega
    rw [v0, v1, v2, v3, v4, v5, v6, v7, v8, v9, v10, v11, v12, v13, v14, v15, v16, v17, x7]
    exact hk
  intro l_203
  intro h94
  refine ⟨?_, ?_⟩
  ·
   refine ⟨by first | omega | (dsimp only; omega), ?_⟩
   have h95 : ys_2.length ≤ (1000000 : Nat) := by
    have hy : ys_2 = List.replicate 256 0 := h2.trans fmt4
    rw [hy, List.length_replicate]
    decide
   refine ⟨h95, ?_⟩
   refine ⟨by first | omega | (dsimp only; omega), ?_⟩
   exact by omega
  intro n205
  intro b_206
  intro h96
  intro h97
  intro l_209
  intro h98
  refine ⟨by first | omega | (dsimp only; omega), ?_⟩
  intro e_211
  intro ps_212
  intro h99
  intro ⟨a100, b100⟩
  intro h101
  intro n216
  intro q216
  refine br_intro (fun c102 => ?_) (fun c102 => ?_)
  ·
   simp at c102
   have hy : ys_2 = List.replicate 256 0 := h2.trans fmt4
   have hP1 := h16
   rw [hy, h15] at hP1
   obtain ⟨x1, x2, x3, x4, x5, x6, x7, x8⟩ := first_x hP1 (dflt 9)
   have hD1 := h96
   rw [hy, h94] at hD1
   obtain ⟨-, dv⟩ := done_first (by decide) hD1
   have hP2 := h99
   rw [h98] at hP2
   obtain ⟨y1, y2, y3, y4, y5, y6⟩ := second_x dv hP2 (dflt 9)
   omega
  ·
   simp at c102
   refine ⟨by first | omega | (dsimp only; omega), ?_⟩
   refine ⟨by first | omega | (dsimp only; omega), ?_⟩
   intro n218
   intro q218
   intro ⟨l218, u218⟩
   refine ⟨?_, ?_⟩
   ·
    intro h103
    simp at h103
    refine ⟨by first | omega | (dsimp only; omega), ?_⟩
    exact by omega
   intro n222
   intro q222
   refine ⟨?_, ?_⟩
   ·
    intro q222
    simp at q222
    refine ⟨by first | omega | (dsimp only; omega), ?_⟩
    exact by omega
   refine ⟨?_, ?_⟩
   ·
    intro q222
    simp at q222
    refine ⟨by first | omega | (dsimp only; omega), ?_⟩
    have hy : ys_2 = List.replicate 256 0 := h2.trans fmt4
    have hP1 := h16
    rw [hy, h15] at hP1
    obtain ⟨x1, x2, x3, x4, x5, x6, x7, x8⟩ := first_x hP1 (dflt 9)
    have hD1 := h96
    rw [hy, h94] at hD1
    obtain ⟨-, dv⟩ := done_first (by decide) hD1
    have hP2 := h99
    rw [h98] at hP2
    obtain ⟨y1, y2, y3, y4, y5, y6⟩ := second_x dv hP2 (dflt 9)
    omega
   intro n226
   intro q226
   refine ⟨?_, ?_⟩
   ·
    refine ⟨by first | omega | (dsimp only; omega), ?_⟩
    have h104 : n205.length ≤ (1000000 : Nat) := by
     have hy : ys_2 = List.replicate 256 0 := h2.trans fmt4
     have hD1 := h96
     rw [hy, h94] at hD1
     obtain ⟨-, dv⟩ := done_first (by decide) hD1
     rw [dv.l]
     decide
    refine ⟨h104, ?_⟩
    refine ⟨by first | omega | (dsimp only; omega), ?_⟩
    exact by omega
   intro n228
   intro b_229
   intro h105
   intro h106
   refine ⟨?_, ?_⟩
   ·
    refine ⟨by first | omega | (dsimp only; omega), ?_⟩
    have h107 : n205.length ≤ (1000000 : Nat) := by
     have hy : ys_2 = List.replicate 256 0 := h2.trans fmt4
     have hD1 := h96
     rw [hy, h94] at hD1
     obtain ⟨-, dv⟩ := done_first (by decide) hD1
     rw [dv.l]
     decide
    refine ⟨h107, ?_⟩
    refine ⟨by first | omega | (dsimp only; omega), ?_⟩
    exact by omega
   intro n232
   intro b_233
   intro h108
   intro h109
   intro e_236
   intro g_237
   intro m_238
   intro ps_239
   intro h110
   intro ⟨a111, b111⟩
   intro ⟨a112, b112⟩
   intro ⟨a113, b113⟩
   intro h114
   intro e_245
   intro g_246
   intro m_247
   intro ps_248
   intro h115
   intro ⟨a116, b116⟩
   intro ⟨a117, b117⟩
   intro ⟨a118, b118⟩
   intro h119
   refine ⟨by first | omega | (dsimp only; omega), ?_⟩
   intro e_254
   intro ps_255
   intro h120
   intro ⟨a121, b121⟩
   intro h122
   refine ⟨by first | omega | (dsimp only; omega), ?_⟩
   intro e_259
   intro ps_260
   intro h123
   intro ⟨a124, b124⟩
   intro h125
   intro e_264
   intro g_265
   intro m_266
   intro ps_267
   intro h126
   intro ⟨a127, b127⟩
   intro ⟨a128, b128⟩
   intro ⟨a129, b129⟩
   intro h130
   intro n273
   intro q273
   intro n275
   intro q275
   intro n277
   intro q277
   intro n279
   intro q279
   have hy : ys_2 = List.replicate 256 0 := h2.trans fmt4
   have hP1 := h16
   rw [hy, h15] at hP1
   obtain ⟨x1, x2, x3, x4, x5, x6, x7, x8⟩ := first_x hP1 (dflt 9)
   have hD1 := h96
   rw [hy, h94] at hD1
   obtain ⟨-, dv⟩ := done_first (by decide) hD1
   have hP2 := h99
   rw [h98] at hP2
   obtain ⟨y1, y2, y3, y4, y5, y6⟩ := second_x dv hP2 (dflt 9)
   obtain ⟨u1, u2, u3, -⟩ := h110.uniq (torn_56 dv h105)
   obtain ⟨w1, w2, w3, -⟩ := h115.uniq (torn_57 dv h108)
   have hR := h4
   rw [hy] at hR
   have s1 := read_4 hR
   have hQ := h120
   rw [hy] at hQ
   have s2 := put_4 hQ
   have hZ := h123
   rw [hy] at hZ
   have s3 := put_z hZ
   have hS := h126
   rw [hy] at hS
   have s4 := slot_2 hS
   have s5 := h9.trans fmt1
   have s6 := h12.trans fmt65
   have v0 : e_6 = 190 := by omega
   have v1 : e_15 = 190 := by omega
   have v2 : e_20 = 180 := by omega
   have v3 : n37 = 0 := by omega
   have v4 : n41 = 1 := by omega
   have v5 : n47 = 1 := by omega
   have v6 : n218 = 2 := by omega
   have v7 : n222 = 3 := by omega
   have v8 : n226 = 2 := by omega
   have v9 : e_236 = 0 := by omega
   have v10 : n273 = 1 := by omega
   have v11 : n275 = 2 := by omega
   have v12 : e_245 = 0 := by omega
   have v13 : n277 = 2 := by omega
   have v14 : n279 = 1 := by omega
   have v15 : e_254 = 2 := by omega
   have v16 : e_259 = 170 := by omega
   have v17 : e_264 = 2 := by omega
   rw [v0, v1, v2, v3, v4, v5, v6, v7, v8, v9, v10, v11, v12, v13, v14, v15, v16, v17, x7]
   exact hk

theorem storeNames_ok : Holds Try.prog 8 aliveS := by
  refine fn_sound (env := mkEnv H9) (tab_ok H9_ok) Try.func8 Try.call8 fun args k h => ?_
  match args, h with
  | [], h => exact ⟨by kernel_rfl, fun _ _ => none, fun _ _ => none, .cast (by kernel_rfl) (storeNames_vc  k h)⟩
end Go.Proofs.Ytcdflgfhkohldaa

namespace Go.Proofs.Ytcdflgfhkohldaa
open Go.ChangeShapes Go.WideShapes Go.ChangeAt Go.RowKit Go.Eng
set_option linter.unusedVariables false

theorem ownN : ownKnob Try.prog.godebug = none := by kernel_rfl

set_option maxRecDepth 100000 in
theorem storeNamesLifted (os : Os) (started : os.Started) (H : Type) (enc : TypeId × Value → H) :
    ReturnsInHanded {} Try.checked os 8 .any (Rows.storeNamesSpec.pre6 enc Try.prog Try.f8 Rows.storeNamesRow.domain false) (Rows.storeNamesSpec.post enc Try.prog Try.f8 false true false false) := by
  refine returnsInHanded_of_change (C := Try.checked) ownN started (by kernel_rfl) Try.func8
    (ChangeSpec.witness6 (enc := enc) (C := Try.checked) false ⟨#[], #[], []⟩ 8 (by kernel_rfl) (by kernel_rfl) (by kernel_rfl) (by kernel_rfl)) ?_
  intro W base args ds gs before hval0 hW hcnd _
  have hW' := hW
  obtain ⟨p, q, hA0, hV, rfl, hfz, hnd⟩ := hW
  have hA : DataW.TrodAll enc Try.prog W 0 (fun _ => true) true Try.f8.params.toList args.toList ds p := hA0
  rw [Try.params8] at hA
  obtain ⟨hargs, rfl, rfl⟩ := trodAll_nil hA
  obtain rfl : args = #[] := by cases args; simp_all
  obtain ⟨rfl, rfl⟩ := trodVars_none hV
  clear hA0 hval0
  refine (calls_of_holds storeNames_ok Try.call8 (w := W) (vals := #[]) (args := []) rfl (fun j v hj => by simp at hj) rfl).mono fun e W' ⟨he, bel⟩ => ?_
  subst he
  exact ⟨_, rfl, _, _, _, [], _, [], hW', trodAll_mk1 (shut_bool Try.underlying4 _), trodAll_mk0, rfl, bel.frame _, fun h => by cases h⟩

theorem storeNames_said : Rows.StoreNamesSaid :=
  OpenClaim.holds_of_wide 8 Try.f8 rfl rfl rfl rfl rfl rfl rfl ⟨rfl, rfl, rfl, rfl, rfl⟩ rfl rfl rfl rfl rfl (by kernel_rfl) Try.func8 (by kernel_rfl)
    (of_decide_eq_true (by kernel_rfl)) (by unfold Func.isWrapper; first | (rw [if_pos (by decide +kernel)]; kernel_rfl) | (rw [if_neg (by decide +kernel)]; exact ⟨rfl, rfl⟩))
    (fun os started H enc _ => storeNamesLifted os started H enc)
#print axioms storeNames_said
end Go.Proofs.Ytcdflgfhkohldaa


