import Derived.Test.YtcdflgfhkohldaaStD
namespace Go.Proofs.Ytcdflgfhkohldaa
open Go Go.Eng Go.Rw Go.Lk Go.Proofs
open Go.Bk hiding take_step drop_step set_mid
set_option linter.unusedVariables false
set_option maxHeartbeats 2000000 in
theorem bdo_vc (d : List UInt8) (l : List Put) (w : Int) (t : Int) (hd : d.length ≤ 1000000 ∧ l.length ≤ 1000000) (k : AV → List (Option Blk) → List Blk → Prop) (hk : (∀ (e : Int), e = doE d l w t → e ≠ (0 : Int) → k (.tup [.agg [.nilsl], .int .i64 e]) [] []) ∧ (doE d l w t = 0 → ∀ (ys : List UInt8) (n : Nat), ys = doO d l w t → ys.length = n → k (.tup [.agg [.row 0 0 0 n], .int .i64 0]) [] [.row 0 ys])) : ∀ (e_1 : Int), (e_1 = chkE d) → ∀ (n3 : Int), (n3 = e_1) → (inK .i64 n3) → br (n3 != 0) (∀ (n6 : Int), (n6 = e_1) → (inK .i64 n6) → br (n6 != 0) ((k (.tup [.agg [.nilsl], .int .i64 e_1]) [] [])) ((k (.tup [.agg [.nilsl], .int .i64 e_1]) [] []))) (∀ (n9 : Int), (n9 = (↑l.length : Int)) → (inK .i64 n9) → (∃ (v : Nat), (l = l) ∧ (w = w) ∧ (t = t) ∧ (l = l) ∧ (n9 = (↑l.length : Int)) ∧ ((0 : Int) = (↑v : Int)) ∧ (e_1 = 0) ∧ (d = d) ∧ (v ≤ l.length) ∧ ((d.length ≤ 1000000) ∧ (l.length ≤ 1000000)) ∧ (DrE d l v (0 : Int))) ∧ ∀ (v_12 : Nat), (v_12 ≤ l.length ∧ (d.length ≤ 1000000 ∧ l.length ≤ 1000000) ∧ DrE d l v_12 (0 : Int)) → br (decide ((↑v_12 : Int) < (↑l.length : Int))) (((0 : Int) ≤ (↑v_12 : Int)) ∧ ((↑v_12 : Int) < (↑l.length : Int)) ∧ ∀ (n14 : Int), (n14 = (l.getD (↑v_12 : Int).toNat (dflt 9)).n) → (inK .i64 n14) → ∀ (e_17 : Int), (e_17 = askE d n14) → ∀ (n19 : Int), (n19 = e_17) → (inK .i64 n19) → br (n19 != 0) (∀ (n22 : Int), (n22 = e_17) → (inK .i64 n22) → br (n22 != 0) ((k (.tup [.agg [.nilsl], .int .i64 e_17]) [] [])) ((k (.tup [.agg [.nilsl], .int .i64 e_17]) [] []))) (∀ (n25 : Int), (n25 = (↑(l.getD (↑v_12 : Int).toNat (dflt 9)).data.length : Int)) → (inK .i64 n25) → br (n25 != 64) (∀ (n28 : Int), (n28 = 8) → (inK .i64 n28) → br (n28 != 0) ((k (.tup [.agg [.nilsl], .int .i64 8]) [] [])) ((k (.tup [.agg [.nilsl], .int .i64 8]) [] []))) (∀ (n31 : Int), (n31 = IntKind.i64.wrap ((↑v_12 : Int) + (1 : Int))) → (inK .i64 n31) → ∃ (v' : Nat), (l = l) ∧ (w = w) ∧ (t = t) ∧ (l = l) ∧ ((↑l.length : Int) = (↑l.length : Int)) ∧ (n31 = (↑v' : Int)) ∧ (e_17 = 0) ∧ (d = d) ∧ ((v' ≤ l.length) ∧ ((d.length ≤ 1000000) ∧ (l.length ≤ 1000000)) ∧ (DrE d l v' (0 : Int))) ∧ (l.length - v' < l.length - v_12)))) (∀ (n34 : Int), (n34 = (↑l.length : Int)) → br (bif bif bif decide (w < 0) then true else decide (w > n34) then true else decide (t < 0) then true else decide (t > 64)) (∀ (n36 : Int), (n36 = 2) → (inK .i64 n36) → br (n36 != 0) ((k (.tup [.agg [.nilsl], .int .i64 2]) [] [])) ((k (.tup [.agg [.nilsl], .int .i64 2]) [] []))) ((d.length ≤ 1000000) ∧ ∀ (n39 : Int), (n39 = (↑l.length : Int)) → (inK .i64 n39) → (∃ (v : Nat × List UInt8), (w = w) ∧ (t = t) ∧ (l = l) ∧ (n39 = (↑l.length : Int)) ∧ ((0 : Int) = (↑v.fst : Int)) ∧ ((0 : Int) = (0 : Int)) ∧ (0 = 0) ∧ (d.length = d.length) ∧ (d = v.snd) ∧ (v.fst ≤ l.length) ∧ ((d.length ≤ 1000000) ∧ (l.length ≤ 1000000)) ∧ (ok0 d l w t) ∧ (v.snd.length = d.length) ∧ (v.snd = doF d l w t v.fst)) ∧ ∀ (v_42 : Nat × List UInt8), (v_42.fst ≤ l.length ∧ (d.length ≤ 1000000 ∧ l.length ≤ 1000000) ∧ ok0 d l w t ∧ v_42.snd.length = d.length ∧ v_42.snd = doF d l w t v_42.fst) → br (decide ((↑v_42.fst : Int) < (↑l.length : Int))) (((0 : Int) ≤ (↑v_42.fst : Int)) ∧ ((↑v_42.fst : Int) < (↑l.length : Int)) ∧ br (decide ((↑v_42.fst : Int) < w)) (∀ (n44 : Int), (n44 = (l.getD (↑v_42.fst : Int).toNat (dflt 9)).n) → (inK .i64 n44) → (((d.length = v_42.snd.length) ∧ (0 ≤ n44) ∧ ((64 : Int) * n44 + 64 ≤ (↑v_42.snd.length : Int)) ∧ (v_42.snd.length ≤ 1000000)) ∧ ∀ (o_47 : Nat), (o_47 = 64 * n44.toNat) → ∀ (z49 : List UInt8), (z49 = List.take o_47 v_42.snd ++ List.take ((l.getD (↑v_42.fst : Int).toNat (dflt 9)).data.length.min 64) (l.getD (↑v_42.fst : Int).toNat (dflt 9)).data ++ List.drop (o_47 + (l.getD (↑v_42.fst : Int).toNat (dflt 9)).data.length.min 64) v_42.snd) → ∀ (n51 : Int), (n51 = IntKind.i64.wrap ((↑v_42.fst : Int) + (1 : Int))) → (inK .i64 n51) → ∃ (v' : Nat × List UInt8), (w = w) ∧ (t = t) ∧ (l = l) ∧ ((↑l.length : Int) = (↑l.length : Int)) ∧ (n51 = (↑v'.fst : Int)) ∧ ((0 : Int) = (0 : Int)) ∧ (0 = 0) ∧ (d.length = d.length) ∧ (z49 = v'.snd) ∧ ((v'.fst ≤ l.length) ∧ ((d.length ≤ 1000000) ∧ (l.length ≤ 1000000)) ∧ (ok0 d l w t) ∧ (v'.snd.length = d.length) ∧ (v'.snd = doF d l w t v'.fst)) ∧ (l.length - v'.fst < l.length - v_42.fst)) ∧ (((d.length = v_42.snd.length) ∧ (0 ≤ n44) ∧ ((64 : Int) * n44 + 64 ≤ (↑v_42.snd.length : Int)) ∧ (v_42.snd.length ≤ 1000000)) ∧ ∀ (o_54 : Nat), (o_54 = 64 * n44.toNat) → ∀ (z56 : List UInt8), (z56 = List.take o_54 v_42.snd ++ List.take ((l.getD (↑v_42.fst : Int).toNat (dflt 9)).data.length.min 64) (l.getD (↑v_42.fst : Int).toNat (dflt 9)).data ++ List.drop (o_54 + (l.getD (↑v_42.fst : Int).toNat (dflt 9)).data.length.min 64) v_42.snd) → ∀ (n58 : Int), (n58 = IntKind.i64.wrap ((↑v_42.fst : Int) + (1 : Int))) → (inK .i64 n58) → ∃ (v' : Nat × List UInt8), (w = w) ∧ (t = t) ∧ (l = l) ∧ ((↑l.length : Int) = (↑l.length : Int)) ∧ (n58 = (↑v'.fst : Int)) ∧ ((0 : Int) = (0 : Int)) ∧ (0 = 0) ∧ (d.length = d.length) ∧ (z56 = v'.snd) ∧ ((v'.fst ≤ l.length) ∧ ((d.length ≤ 1000000) ∧ (l.length ≤ 1000000)) ∧ (ok0 d l w t) ∧ (v'.snd.length = d.length) ∧ (v'.snd = doF d l w t v'.fst)) ∧ (l.length - v'.fst < l.length - v_42.fst)) ∧ ((d.length = v_42.snd.length) ∧ (0 ≤ n44) ∧ ((64 : Int) * n44 + 64 ≤ (↑v_42.snd.length : Int)) ∧ (v_42.snd.length ≤ 1000000)) ∧ ∀ (o_61 : Nat), (o_61 = 64 * n44.toNat) → ∀ (z63 : List UInt8), (z63 = List.take o_61 v_42.snd ++ List.take ((l.getD (↑v_42.fst : Int).toNat (dflt 9)).data.length.min 64) (l.getD (↑v_42.fst : Int).toNat (dflt 9)).data ++ List.drop (o_61 + (l.getD (↑v_42.fst : Int).toNat (dflt 9)).data.length.min 64) v_42.snd) → ∀ (n65 : Int), (n65 = IntKind.i64.wrap ((↑v_42.fst : Int) + (1 : Int))) → (inK .i64 n65) → ∃ (v' : Nat × List UInt8), (w = w) ∧ (t = t) ∧ (l = l) ∧ ((↑l.length : Int) = (↑l.length : Int)) ∧ (n65 = (↑v'.fst : Int)) ∧ ((0 : Int) = (0 : Int)) ∧ (0 = 0) ∧ (d.length = d.length) ∧ (z63 = v'.snd) ∧ ((v'.fst ≤ l.length) ∧ ((d.length ≤ 1000000) ∧ (l.length ≤ 1000000)) ∧ (ok0 d l w t) ∧ (v'.snd.length = d.length) ∧ (v'.snd = doF d l w t v'.fst)) ∧ (l.length - v'.fst < l.length - v_42.fst)) (br ((↑v_42.fst : Int) == w) (∀ (n68 : Int), (n68 = (l.getD (↑v_42.fst : Int).toNat (dflt 9)).n) → (inK .i64 n68) → (((d.length = v_42.snd.length) ∧ (0 ≤ n68) ∧ ((64 : Int) * n68 + 64 ≤ (↑v_42.snd.length : Int)) ∧ (v_42.snd.length ≤ 1000000)) ∧ ∀ (o_71 : Nat), (o_71 = 64 * n68.toNat) → (0 ≤ t) ∧ (t ≤ (↑(l.getD (↑v_42.fst : Int).toNat (dflt 9)).data.length : Int)) ∧ ∀ (z73 : List UInt8), (z73 = List.take o_71 v_42.snd ++ List.take ((List.take t.toNat (l.getD (↑v_42.fst : Int).toNat (dflt 9)).data).length.min 64) (List.take t.toNat (l.getD (↑v_42.fst : Int).toNat (dflt 9)).data) ++ List.drop (o_71 + (List.take t.toNat (l.getD (↑v_42.fst : Int).toNat (dflt 9)).data).length.min 64) v_42.snd) → ∀ (n75 : Int), (n75 = IntKind.i64.wrap ((↑v_42.fst : Int) + (1 : Int))) → (inK .i64 n75) → ∃ (v' : Nat × List UInt8), (w = w) ∧ (t = t) ∧ (l = l) ∧ ((↑l.length : Int) = (↑l.length : Int)) ∧ (n75 = (↑v'.fst : Int)) ∧ ((0 : Int) = (0 : Int)) ∧ (0 = 0) ∧ (d.length = d.length) ∧ (z73 = v'.snd) ∧ ((v'.fst ≤ l.length) ∧ ((d.length ≤ 1000000) ∧ (l.length ≤ 1000000)) ∧ (ok0 d l w t) ∧ (v'.snd.length = d.length) ∧ (v'.snd = doF d l w t v'.fst)) ∧ (l.length - v'.fst < l.length - v_42.fst)) ∧ (((d.length = v_42.snd.length) ∧ (0 ≤ n68) ∧ ((64 : Int) * n68 + 64 ≤ (↑v_42.snd.length : Int)) ∧ (v_42.snd.length ≤ 1000000)) ∧ ∀ (o_78 : Nat), (o_78 = 64 * n68.toNat) → (0 ≤ t) ∧ (t ≤ (↑(l.getD (↑v_42.fst : Int).toNat (dflt 9)).data.length : Int)) ∧ ∀ (z80 : List UInt8), (z80 = List.take o_78 v_42.snd ++ List.take ((List.take t.toNat (l.getD (↑v_42.fst : Int).toNat (dflt 9)).data).length.min 64) (List.take t.toNat (l.getD (↑v_42.fst : Int).toNat (dflt 9)).data) ++ List.drop (o_78 + (List.take t.toNat (l.getD (↑v_42.fst : Int).toNat (dflt 9)).data).length.min 64) v_42.snd) → ∀ (n82 : Int), (n82 = IntKind.i64.wrap ((↑v_42.fst : Int) + (1 : Int))) → (inK .i64 n82) → ∃ (v' : Nat × List UInt8), (w = w) ∧ (t = t) ∧ (l = l) ∧ ((↑l.length : Int) = (↑l.length : Int)) ∧ (n82 = (↑v'.fst : Int)) ∧ ((0 : Int) = (0 : Int)) ∧ (0 = 0) ∧ (d.length = d.length) ∧ (z80 = v'.snd) ∧ ((v'.fst ≤ l.length) ∧ ((d.length ≤ 1000000) ∧ (l.length ≤ 1000000)) ∧ (ok0 d l w t) ∧ (v'.snd.length = d.length) ∧ (v'.snd = doF d l w t v'.fst)) ∧ (l.length - v'.fst < l.length - v_42.fst)) ∧ (((d.length = v_42.snd.length) ∧ (0 ≤ n68) ∧ ((64 : Int) * n68 + 64 ≤ (↑v_42.snd.length : Int)) ∧ (v_42.snd.length ≤ 1000000)) ∧ ∀ (o_85 : Nat), (o_85 = 64 * n68.toNat) → (0 ≤ t) ∧ (t ≤ (↑(l.getD (↑v_42.fst : Int).toNat (dflt 9)).data.length : Int)) ∧ ∀ (z87 : List UInt8), (z87 = List.take o_85 v_42.snd ++ List.take ((List.take t.toNat (l.getD (↑v_42.fst : Int).toNat (dflt 9)).data).length.min 64) (List.take t.toNat (l.getD (↑v_42.fst : Int).toNat (dflt 9)).data) ++ List.drop (o_85 + (List.take t.toNat (l.getD (↑v_42.fst : Int).toNat (dflt 9)).data).length.min 64) v_42.snd) → ∀ (n89 : Int), (n89 = IntKind.i64.wrap ((↑v_42.fst : Int) + (1 : Int))) → (inK .i64 n89) → ∃ (v' : Nat × List UInt8), (w = w) ∧ (t = t) ∧ (l = l) ∧ ((↑l.length : Int) = (↑l.length : Int)) ∧ (n89 = (↑v'.fst : Int)) ∧ ((0 : Int) = (0 : Int)) ∧ (0 = 0) ∧ (d.length = d.length) ∧ (z87 = v'.snd) ∧ ((v'.fst ≤ l.length) ∧ ((d.length ≤ 1000000) ∧ (l.length ≤ 1000000)) ∧ (ok0 d l w t) ∧ (v'.snd.length = d.length) ∧ (v'.snd = doF d l w t v'.fst)) ∧ (l.length - v'.fst < l.length - v_42.fst)) ∧ (0 ≤ t) ∧ (t ≤ (↑(l.getD (↑v_42.fst : Int).toNat (dflt 9)).data.length : Int)) ∧ ((d.length = v_42.snd.length) ∧ (0 ≤ n68) ∧ ((64 : Int) * n68 + 64 ≤ (↑v_42.snd.length : Int)) ∧ (v_42.snd.length ≤ 1000000)) ∧ ∀ (o_92 : Nat), (o_92 = 64 * n68.toNat) → ∀ (z94 : List UInt8), (z94 = List.take o_92 v_42.snd ++ List.take ((List.take t.toNat (l.getD (↑v_42.fst : Int).toNat (dflt 9)).data).length.min 64) (List.take t.toNat (l.getD (↑v_42.fst : Int).toNat (dflt 9)).data) ++ List.drop (o_92 + (List.take t.toNat (l.getD (↑v_42.fst : Int).toNat (dflt 9)).data).length.min 64) v_42.snd) → ∀ (n96 : Int), (n96 = IntKind.i64.wrap ((↑v_42.fst : Int) + (1 : Int))) → (inK .i64 n96) → ∃ (v' : Nat × List UInt8), (w = w) ∧ (t = t) ∧ (l = l) ∧ ((↑l.length : Int) = (↑l.length : Int)) ∧ (n96 = (↑v'.fst : Int)) ∧ ((0 : Int) = (0 : Int)) ∧ (0 = 0) ∧ (d.length = d.length) ∧ (z94 = v'.snd) ∧ ((v'.fst ≤ l.length) ∧ ((d.length ≤ 1000000) ∧ (l.length ≤ 1000000)) ∧ (ok0 d l w t) ∧ (v'.snd.length = d.length) ∧ (v'.snd = doF d l w t v'.fst)) ∧ (l.length - v'.fst < l.length - v_42.fst)) (∀ (n99 : Int), (n99 = IntKind.i64.wrap ((↑v_42.fst : Int) + (1 : Int))) → (inK .i64 n99) → ∃ (v' : Nat × List UInt8), (w = w) ∧ (t = t) ∧ (l = l) ∧ ((↑l.length : Int) = (↑l.length : Int)) ∧ (n99 = (↑v'.fst : Int)) ∧ ((0 : Int) = (0 : Int)) ∧ (0 = 0) ∧ (d.length = d.length) ∧ (v_42.snd = v'.snd) ∧ ((v'.fst ≤ l.length) ∧ ((d.length ≤ 1000000) ∧ (l.length ≤ 1000000)) ∧ (ok0 d l w t) ∧ (v'.snd.length = d.length) ∧ (v'.snd = doF d l w t v'.fst)) ∧ (l.length - v'.fst < l.length - v_42.fst)))) (∀ (n102 : Int), (n102 = 0) → (inK .i64 n102) → br (n102 != 0) ((k (.tup [.agg [.nilsl], .int .i64 0]) [] [])) ((k (.tup [.agg [.row 0 0 0 d.length], .int .i64 0]) [] [.row 0 v_42.snd])))))) := by
 intro e_1 h1 n3 q3 ⟨l3, u3⟩
 refine br_intro (fun c2 => ?_) (fun c2 => ?_)
 ·
  simp at c2
  intro n6 q6 ⟨l6, u6⟩
  refine br_intro (fun c3 => ?_) (fun c3 => ?_)
  ·
   simp at c3
   exact hk.1 e_1 (do_chk h1 (by omega)) (by omega)
  simp at c3
  exfalso; omega
 simp at c2
 intro n9 q9 ⟨l9, u9⟩
 refine ⟨?_, ?_⟩
 ·
  refine ⟨Int.toNat (0 : Int), rfl, rfl, rfl, rfl, by show n9 = (↑l.length : Int); assumption, by show (0 : Int) = (↑(Int.toNat (0 : Int)) : Int); omega, by show e_1 = (0 : Int); omega, rfl, by show Int.toNat (0 : Int) ≤ l.length; omega, by first | omega | (dsimp only; omega), ?_⟩
  exact dr_0 (by omega)
 intro v_12 h4
 refine brd (fun c5 => ?_) (fun c5 => ?_)
 ·
  refine ⟨by first | omega | (dsimp only; omega), by assumption, ?_⟩
  intro n14 q14 ⟨l14, u14⟩ e_17 h6 n19 q19 ⟨l19, u19⟩
  refine br_intro (fun c7 => ?_) (fun c7 => ?_)
  ·
   simp at c7
   intro n22 q22 ⟨l22, u22⟩
   refine br_intro (fun c8 => ?_) (fun c8 => ?_)
   ·
    simp at c8
    exact hk.1 e_17 (do_of (dr_ask h4.2.2 (by omega) q14 h6 (by omega)) (by omega)) (by omega)
   simp at c8
   exfalso; omega
  simp at c7
  intro n25 q25 ⟨l25, u25⟩
  refine br_intro (fun c9 => ?_) (fun c9 => ?_)
  ·
   simp at c9
   intro n28 q28 ⟨l28, u28⟩
   refine br_intro (fun c10 => ?_) (fun c10 => ?_)
   ·
    simp at c10
    exact hk.1 8 (do_of (dr_len h4.2.2 (by omega) q14 h6 (by omega) (by rw [Int.toNat_natCast] at q25; omega)) (by decide)) (by decide)
   simp at c10
   exfalso; omega
  simp at c9
  intro n31 q31
  rw [IntKind.wrap_i64] at q31
  intro ⟨l31, u31⟩
  refine ⟨n31.toNat, rfl, rfl, rfl, rfl, rfl, by show n31 = (↑n31.toNat : Int); omega, by show e_17 = (0 : Int); omega, rfl, ?_⟩
  refine ⟨?_, ?_⟩
  ·
   refine ⟨by show n31.toNat ≤ l.length; omega, by first | omega | (dsimp only; omega), ?_⟩
   exact dr_step h4.2.2 (by omega) q14 h6 (by omega) (by rw [Int.toNat_natCast] at q25; omega) (by omega)
  exact by show l.length - n31.toNat < l.length - v_12; omega
 intro n34 q34
 refine br_intro (fun c11 => ?_) (fun c11 => ?_)
 ·
  simp at c11
  intro n36 q36 ⟨l36, u36⟩
  refine br_intro (fun c12 => ?_) (fun c12 => ?_)
  ·
   simp at c12
   exact hk.1 2 (do_2 (dr_end h4.2.2 (by omega)) (by omega)) (by decide)
  simp at c12
  exfalso; omega
 simp at c11
 refine ⟨by first | omega | (dsimp only; omega), ?_⟩
 intro n39 q39 ⟨l39, u39⟩
 refine ⟨?_, ?_⟩
 ·
  refine ⟨(Int.toNat (0 : Int), d), rfl, rfl, rfl, by show n39 = (↑l.length : Int); assumption, by show (0 : Int) = (↑(Int.toNat (0 : Int)) : Int); omega, rfl, rfl, rfl, rfl, by show Int.toNat (0 : Int) ≤ l.length; omega, by first | omega | (dsimp only; omega), ?_⟩
  have h13 : ok0 d l w t := by
   exact ok_of (dr_end h4.2.2 (by omega)) (by omega)
  refine ⟨h13, rfl, ?_⟩
  exact by rfl
 intro v_42 h14
 refine brd (fun c15 => ?_) (fun c15 => ?_)
 ·
  refine ⟨by first | omega | (dsimp only; omega), by assumption, ?_⟩
  refine brd (fun c16 => ?_) (fun c16 => ?_)
  ·
   intro n44 q44 ⟨l44, u44⟩
   refine ⟨?_, ?_⟩
   ·
    refine ⟨?_, ?_⟩
    ·
     refine ⟨by first | omega | (dsimp only; omega), ?_⟩
     have h17 : (0 : Int) ≤ n44 := by
      exact (bk_room h14.2.2.1 (by omega) q44).1
     refine ⟨h17, ?_⟩
     have h18 : (64 : Int) * n44 + (64 : Int) ≤ (↑v_42.snd.length : Int) := by
      have := (bk_room h14.2.2.1 (by omega) q44).2.1
      omega
     refine ⟨h18, ?_⟩
     exact by omega
    intro o_47 h19 z49 qz49 n51 q51
    rw [IntKind.wrap_i64] at q51
    intro ⟨l51, u51⟩
    refine ⟨(n51.toNat, z49), rfl, rfl, rfl, rfl, by show n51 = (↑n51.toNat : Int); omega, rfl, rfl, rfl, rfl, ?_⟩
    refine ⟨?_, ?_⟩
    ·
     refine ⟨by show n51.toNat ≤ l.length; omega, by first | omega | (dsimp only; omega), ?_⟩
     have h20 : ok0 d l w t := by
      exact h14.2.2.1
     refine ⟨h20, ?_⟩
     have h21 : z49.length = d.length := by
      exact (bk_1 h14.2.2.1 (by omega) h14.2.2.2.1 h14.2.2.2.2 (by omega) q44 h19 qz49).2
     refine ⟨h21, ?_⟩
     rw [show n51.toNat = v_42.fst + 1 by omega]
     exact (bk_1 h14.2.2.1 (by omega) h14.2.2.2.1 h14.2.2.2.2 (by omega) q44 h19 qz49).1
    exact by show l.length - n51.toNat < l.length - v_42.fst; omega
   refine ⟨?_, ?_⟩
   ·
    refine ⟨?_, ?_⟩
    ·
     refine ⟨by first | omega | (dsimp only; omega), ?_⟩
     have h22 : (0 : Int) ≤ n44 := by
      exact (bk_room h14.2.2.1 (by omega) q44).1
     refine ⟨h22, ?_⟩
     have h23 : (64 : Int) * n44 + (64 : Int) ≤ (↑v_42.snd.length : Int) := by
      have := (bk_room h14.2.2.1 (by omega) q44).2.1
      omega
     refine ⟨h23, ?_⟩
     exact by omega
    intro o_54 h24 z56 qz56 n58 q58
    rw [IntKind.wrap_i64] at q58
    intro ⟨l58, u58⟩
    refine ⟨(n58.toNat, z56), rfl, rfl, rfl, rfl, by show n58 = (↑n58.toNat : Int); omega, rfl, rfl, rfl, rfl, ?_⟩
    refine ⟨?_, ?_⟩
    ·
     refine ⟨by show n58.toNat ≤ l.length; omega, by first | omega | (dsimp only; omega), ?_⟩
     have h25 : ok0 d l w t := by
      exact h14.2.2.1
     refine ⟨h25, ?_⟩
     have h26 : z56.length = d.length := by
      exact (bk_1 h14.2.2.1 (by omega) h14.2.2.2.1 h14.2.2.2.2 (by omega) q44 h24 qz56).2
     refine ⟨h26, ?_⟩
     rw [show n58.toNat = v_42.fst + 1 by omega]
     exact (bk_1 h14.2.2.1 (by omega) h14.2.2.2.1 h14.2.2.2.2 (by omega) q44 h24 qz56).1
    exact by show l.length - n58.toNat < l.length - v_42.fst; omega
   refine ⟨?_, ?_⟩
   ·
    refine ⟨by first | omega | (dsimp only; omega), ?_⟩
    have h27 : (0 : Int) ≤ n44 := by
     exact (bk_room h14.2.2.1 (by omega) q44).1
    refine ⟨h27, ?_⟩
    have h28 : (64 : Int) * n44 + (64 : Int) ≤ (↑v_42.snd.length : Int) := by
     have := (bk_room h14.2.2.1 (by omega) q44).2.1
     omega
    refine ⟨h28, ?_⟩
    exact by omega
   intro o_61 h29 z63 qz63 n65 q65
   rw [IntKind.wrap_i64] at q65
   intro ⟨l65, u65⟩
   refine ⟨(n65.toNat, z63), rfl, rfl, rfl, rfl, by show n65 = (↑n65.toNat : Int); omega, rfl, rfl, rfl, rfl, ?_⟩
   refine ⟨?_, ?_⟩
   ·
    refine ⟨by show n65.toNat ≤ l.length; omega, by first | omega | (dsimp only; omega), ?_⟩
    have h30 : ok0 d l w t := by
     exact h14.2.2.1
    refine ⟨h30, ?_⟩
    have h31 : z63.length = d.length := by
     exact (bk_1 h14.2.2.1 (by omega) h14.2.2.2.1 h14.2.2.2.2 (by omega) q44 h29 qz63).2
    refine ⟨h31, ?_⟩
    rw [show n65.toNat = v_42.fst + 1 by omega]
    exact (bk_1 h14.2.2.1 (by omega) h14.2.2.2.1 h14.2.2.2.2 (by omega) q44 h29 qz63).1
   exact by show l.length - n65.toNat < l.length - v_42.fst; omega
  refine br_intro (fun c32 => ?_) (fun c32 => ?_)
  ·
   simp at c32
   intro n68 q68 ⟨l68, u68⟩
   refine ⟨?_, ?_⟩
   ·
    refine ⟨?_, ?_⟩
    ·
     refine ⟨by first | omega | (dsimp only; omega), ?_⟩
     have h33 : (0 : Int) ≤ n68 := by
      exact (bk_room h14.2.2.1 (by omega) q68).1
     refine ⟨h33, ?_⟩
     have h34 : (64 : Int) * n68 + (64 : Int) ≤ (↑v_42.snd.length : Int) := by
      have := (bk_room h14.2.2.1 (by omega) q68).2.1
      omega
     refine ⟨h34, ?_⟩
     exact by omega
    intro o_71 h35
    refine ⟨by first | omega | (dsimp only; omega), ?_⟩
    have h36 : t ≤ (↑(l.getD (↑v_42.fst : Int).toNat (dflt (9 : Nat))).data.length : Int) := by
     have := (bk_room h14.2.2.1 (by omega) q68).2.2
     rw [Int.toNat_natCast]
     omega
    refine ⟨h36, ?_⟩
    intro z73 qz73 n75 q75
    rw [IntKind.wrap_i64] at q75
    intro ⟨l75, u75⟩
    refine ⟨(n75.toNat, z73), rfl, rfl, rfl, rfl, by show n75 = (↑n75.toNat : Int); omega, rfl, rfl, rfl, rfl, ?_⟩
    refine ⟨?_, ?_⟩
    ·
     refine ⟨by show n75.toNat ≤ l.length; omega, by first | omega | (dsimp only; omega), ?_⟩
     have h37 : ok0 d l w t := by
      exact h14.2.2.1
     refine ⟨h37, ?_⟩
     have h38 : z73.length = d.length := by
      exact (bk_2 h14.2.2.1 (by omega) h14.2.2.2.1 h14.2.2.2.2 (by omega) q68 h35 qz73).2
     refine ⟨h38, ?_⟩
     rw [show n75.toNat = v_42.fst + 1 by omega]
     exact (bk_2 h14.2.2.1 (by omega) h14.2.2.2.1 h14.2.2.2.2 (by omega) q68 h35 qz73).1
    exact by show l.length - n75.toNat < l.length - v_42.fst; omega
   refine ⟨?_, ?_⟩
   ·
    refine ⟨?_, ?_⟩
    ·
     refine ⟨by first | omega | (dsimp only; omega), ?_⟩
     have h39 : (0 : Int) ≤ n68 := by
      exact (bk_room h14.2.2.1 (by omega) q68).1
     refine ⟨h39, ?_⟩
     have h40 : (64 : Int) * n68 + (64 : Int) ≤ (↑v_42.snd.length : Int) := by
      have := (bk_room h14.2.2.1 (by omega) q68).2.1
      omega
     refine ⟨h40, ?_⟩
     exact by omega
    intro o_78 h41
    refine ⟨by first | omega | (dsimp only; omega), ?_⟩
    have h42 : t ≤ (↑(l.getD (↑v_42.fst : Int).toNat (dflt (9 : Nat))).data.length : Int) := by
     have := (bk_room h14.2.2.1 (by omega) q68).2.2
     rw [Int.toNat_natCast]
     omega
    refine ⟨h42, ?_⟩
    intro z80 qz80 n82 q82
    rw [IntKind.wrap_i64] at q82
    intro ⟨l82, u82⟩
    refine ⟨(n82.toNat, z80), rfl, rfl, rfl, rfl, by show n82 = (↑n82.toNat : Int); omega, rfl, rfl, rfl, rfl, ?_⟩
    refine ⟨?_, ?_⟩
    ·
     refine ⟨by show n82.toNat ≤ l.length; omega, by first | omega | (dsimp only; omega), ?_⟩
     have h43 : ok0 d l w t := by
      exact h14.2.2.1
     refine ⟨h43, ?_⟩
     have h44 : z80.length = d.length := by
      exact (bk_2 h14.2.2.1 (by omega) h14.2.2.2.1 h14.2.2.2.2 (by omega) q68 h41 qz80).2
     refine ⟨h44, ?_⟩
     rw [show n82.toNat = v_42.fst + 1 by omega]
     exact (bk_2 h14.2.2.1 (by omega) h14.2.2.2.1 h14.2.2.2.2 (by omega) q68 h41 qz80).1
    exact by show l.length - n82.toNat < l.length - v_42.fst; omega
   refine ⟨?_, ?_⟩
   ·
    refine ⟨?_, ?_⟩
    ·
     refine ⟨by first | omega | (dsimp only; omega), ?_⟩
     have h45 : (0 : Int) ≤ n68 := by
      exact (bk_room h14.2.2.1 (by omega) q68).1
     refine ⟨h45, ?_⟩
     have h46 : (64 : Int) * n68 + (64 : Int) ≤ (↑v_42.snd.length : Int) := by
      have := (bk_room h14.2.2.1 (by omega) q68).2.1
      omega
     refine ⟨h46, ?_⟩
     exact by omega
    intro o_85 h47
    refine ⟨by first | omega | (dsimp only; omega), ?_⟩
    have h48 : t ≤ (↑(l.getD (↑v_42.fst : Int).toNat (dflt (9 : Nat))).data.length : Int) := by
     have := (bk_room h14.2.2.1 (by omega) q68).2.2
     rw [Int.toNat_natCast]
     omega
    refine ⟨h48, ?_⟩
    intro z87 qz87 n89 q89
    rw [IntKind.wrap_i64] at q89
    intro ⟨l89, u89⟩
    refine ⟨(n89.toNat, z87), rfl, rfl, rfl, rfl, by show n89 = (↑n89.toNat : Int); omega, rfl, rfl, rfl, rfl, ?_⟩
    refine ⟨?_, ?_⟩
    ·
     refine ⟨by show n89.toNat ≤ l.length; omega, by first | omega | (dsimp only; omega), ?_⟩
     have h49 : ok0 d l w t := by
      exact h14.2.2.1
     refine ⟨h49, ?_⟩
     have h50 : z87.length = d.length := by
      exact (bk_2 h14.2.2.1 (by omega) h14.2.2.2.1 h14.2.2.2.2 (by omega) q68 h47 qz87).2
     refine ⟨h50, ?_⟩
     rw [show n89.toNat = v_42.fst + 1 by omega]
     exact (bk_2 h14.2.2.1 (by omega) h14.2.2.2.1 h14.2.2.2.2 (by omega) q68 h47 qz87).1
    exact by show l.length - n89.toNat < l.length - v_42.fst; omega
   refine ⟨by first | omega | (dsimp only; omega), ?_⟩
   have h51 : t ≤ (↑(l.getD (↑v_42.fst : Int).toNat (dflt (9 : Nat))).data.length : Int) := by
    have := (bk_room h14.2.2.1 (by omega) q68).2.2
    rw [Int.toNat_natCast]
    omega
   refine ⟨h51, ?_⟩
   refine ⟨?_, ?_⟩
   ·
    refine ⟨by first | omega | (dsimp only; omega), ?_⟩
    have h52 : (0 : Int) ≤ n68 := by
     exact (bk_room h14.2.2.1 (by omega) q68).1
    refine ⟨h52, ?_⟩
    have h53 : (64 : Int) * n68 + (64 : Int) ≤ (↑v_42.snd.length : Int) := by
     have := (bk_room h14.2.2.1 (by omega) q68).2.1
     omega
    refine ⟨h53, ?_⟩
    exact by omega
   intro o_92 h54 z94 qz94 n96 q96
   rw [IntKind.wrap_i64] at q96
   intro ⟨l96, u96⟩
   refine ⟨(n96.toNat, z94), rfl, rfl, rfl, rfl, by show n96 = (↑n96.toNat : Int); omega, rfl, rfl, rfl, rfl, ?_⟩
   refine ⟨?_, ?_⟩
   ·
    refine ⟨by show n96.toNat ≤ l.length; omega, by first | omega | (dsimp only; omega), ?_⟩
    have h55 : ok0 d l w t := by
     exact h14.2.2.1
    refine ⟨h55, ?_⟩
    have h56 : z94.length = d.length := by
     exact (bk_2 h14.2.2.1 (by omega) h14.2.2.2.1 h14.2.2.2.2 (by omega) q68 h54 qz94).2
    refine ⟨h56, ?_⟩
    rw [show n96.toNat = v_42.fst + 1 by omega]
    exact (bk_2 h14.2.2.1 (by omega) h14.2.2.2.1 h14.2.2.2.2 (by omega) q68 h54 qz94).1
   exact by show l.length - n96.toNat < l.length - v_42.fst; omega
  simp at c32
  intro n99 q99
  rw [IntKind.wrap_i64] at q99
  intro ⟨l99, u99⟩
  refine ⟨(n99.toNat, v_42.snd), rfl, rfl, rfl, rfl, by show n99 = (↑n99.toNat : Int); omega, rfl, rfl, rfl, rfl, ?_⟩
  refine ⟨?_, ?_⟩
  ·
   refine ⟨by show n99.toNat ≤ l.length; omega, by first | omega | (dsimp only; omega), ?_⟩
   have h57 : ok0 d l w t := by
    exact h14.2.2.1
   refine ⟨h57, by show v_42.snd.length = d.length; omega, ?_⟩
   rw [show n99.toNat = v_42.fst + 1 by omega]
   exact bk_3 h14.2.2.2.2 (by omega) (by omega)
  exact by show l.length - n99.toNat < l.length - v_42.fst; omega
 intro n102 q102 ⟨l102, u102⟩
 refine br_intro (fun c58 => ?_) (fun c58 => ?_)
 ·
  simp at c58
  exfalso; omega
 simp at c58
 exact hk.2 h14.2.2.1.e _ _ (bk_end h14.2.2.1 h14.2.2.2.2 (by omega)) h14.2.2.2.1
theorem bdo_ok : Holds Try.prog 29 doS := by
  refine fn_soundD (env := mkEnv N4) (tab_ok N4_ok) Try.func29 Try.call29 (n := 53) Try.call53 fun args k h => ?_
  match args, h with
  | [.agg [.sl 0 d], .sl 9 l, .int .i64 w, .int .i64 t], h => exact ⟨by kernel_rfl, doLoops d l w t, fun _ _ => none, .cast (by kernel_rfl) (bdo_vc d l w t h.1 k h.2)⟩
end Go.Proofs.Ytcdflgfhkohldaa
