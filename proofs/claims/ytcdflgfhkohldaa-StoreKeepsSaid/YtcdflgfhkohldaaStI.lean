import Derived.Test.YtcdflgfhkohldaaStG
import Derived.Test.YtcdflgfhkohldaaStB
namespace Go.Proofs.Ytcdflgfhkohldaa
open Go Go.Eng Go.Rw Go.Lk Go.Proofs
open Go.Bk hiding take_step drop_step set_mid
open Go.St hiding take_step
set_option linter.unusedVariables false
def joinS : Eng.Spec := { ro := true, own := [], run := fun args _ k => match args with
  | [.sl 6 l, .nilsl] => (2 ≤ l.length ∧ l.length ≤ 1000 ∧ l.flatten.length ≤ 100000) ∧ ∀ (ys : List UInt8) (n : Nat), ys = l.flatten → ys.length = n → k (.row 0 0 0 n) [] [.row 0 ys]
  | _ => False }
def joinLoops (l : List (List UInt8)) : List Nat → Nat → Option LoopAnn := fun _ r => match r with
  | 11 => some { V := Nat × Int, st := fun v => ⟨mk 92 [(0, .sl 6 l), (1, .nilsl), (5, .int .i64 v.2), (42, .sl 6 l), (43, .int .i64 l.length), (44, .int .i64 v.1)], [], []⟩, I := fun v => v.1 ≤ l.length ∧ (0 ≤ v.2 ∧ v.2 ≤ 100000) ∧ v.2 = (catL l v.1).length, μ := fun v => l.length - v.1 }
  | 20 => some { V := Nat × Int × List UInt8, st := fun v => ⟨mk 92 [(1, .nilsl), (8, .row 0 18001 0 l.flatten.length), (9, .int .i64 v.2.1), (70, .sl 6 (l.drop 1)), (71, .int .i64 (l.drop 1).length), (72, .int .i64 v.1)], [], [(18001, .row 0 v.2.2)]⟩, I := fun v => v.1 ≤ (l.drop 1).length ∧ (0 ≤ v.2.1 ∧ v.2.1 ≤ 100000) ∧ v.2.1 = (catL l (v.1 + 1)).length ∧ v.2.2.length = l.flatten.length ∧ JO l (v.1 + 1) v.2.2, μ := fun v => (l.drop 1).length - v.1 }
  | _ => none
def H1 : Tab := [(61, mnzS)]
theorem H1_ok : TabOk Try.prog H1 := ⟨mnz_ok, trivial⟩
end Go.Proofs.Ytcdflgfhkohldaa
namespace Go.Proofs.Ytcdflgfhkohldaa
open Go Go.Eng Go.Rw Go.Lk Go.Proofs
open Go.Bk hiding take_step drop_step set_mid
open Go.St hiding take_step
set_option linter.unusedVariables false
set_option maxHeartbeats 2000000 in
theorem join_vc (l : List (List UInt8)) (hl : 2 ≤ l.length ∧ l.length ≤ 1000 ∧ l.flatten.length ≤ 100000) (k : AV → List (Option Blk) → List Blk → Prop) (hk : ∀ (ys : List UInt8) (n : Nat), ys = l.flatten → ys.length = n → k (.row 0 0 0 n) [] [.row 0 ys]) : ∀ (n1 : Int), (n1 = (↑l.length : Int)) → (inK .i64 n1) → br (n1 == 0) ((k (.row 0 0 0 0) [] [.row 0 []])) (∀ (n4 : Int), (n4 = (↑l.length : Int)) → (inK .i64 n4) → br (n4 == 1) (((0 : Int) ≤ (0 : Int)) ∧ ((0 : Int) < (↑l.length : Int)) ∧ ((l.getD (Int.toNat (0 : Int)) (dflt 6)).length * 1 ≤ 140737488355328) ∧ ∀ (z7 : List UInt8), (z7 = l.getD (Int.toNat (0 : Int)) (dflt 6)) → (k (.row 0 0 0 (l.getD (Int.toNat (0 : Int)) (dflt 6)).length) [] [.row 0 z7])) (∀ (n9 : Int), (n9 = 0) → (inK .i64 n9) → br (decide (n9 > 0)) (∀ (n12 : Int), (n12 = 0) → (inK .i64 n12) → ∀ (n15 : Int), (n15 = (↑l.length : Int)) → (inK .i64 n15) → ∀ (n18 : Int), (n18 = IntKind.i64.wrap (n15 - 1)) → (inK .i64 n18) → (n18 ≠ (0 : Int)) ∧ ∀ (n21 : Int), (n21 = IntKind.i64.wrap (Int.tdiv (9223372036854775807 : Int) n18)) → (inK .i64 n21) → br (decide (n12 ≥ n21)) ((False)) (∀ (n24 : Int), (n24 = 0) → (inK .i64 n24) → ∀ (n27 : Int), (n27 = (↑l.length : Int)) → (inK .i64 n27) → ∀ (n30 : Int), (n30 = IntKind.i64.wrap (n27 - 1)) → (inK .i64 n30) → ∀ (n33 : Int), (n33 = IntKind.i64.wrap (n24 * n30)) → (inK .i64 n33) → ∀ (n36 : Int), (n36 = IntKind.i64.wrap ((0 : Int) + n33)) → (inK .i64 n36) → ∀ (n39 : Int), (n39 = (↑l.length : Int)) → (inK .i64 n39) → (∃ (v : Nat × Int), (l = l) ∧ (n36 = v.snd) ∧ (l = l) ∧ (n39 = (↑l.length : Int)) ∧ ((0 : Int) = (↑v.fst : Int)) ∧ (v.fst ≤ l.length) ∧ ((0 ≤ v.snd) ∧ (v.snd ≤ 100000)) ∧ (v.snd = (↑(catL l v.fst).length : Int))) ∧ ∀ (v_42 : Nat × Int), (v_42.fst ≤ l.length ∧ (0 ≤ v_42.snd ∧ v_42.snd ≤ 100000) ∧ v_42.snd = (↑(catL l v_42.fst).length : Int)) → br (decide ((↑v_42.fst : Int) < (↑l.length : Int))) (((0 : Int) ≤ (↑v_42.fst : Int)) ∧ ((↑v_42.fst : Int) < (↑l.length : Int)) ∧ ∀ (n44 : Int), (n44 = (↑(l.getD (↑v_42.fst : Int).toNat (dflt 6)).length : Int)) → (inK .i64 n44) → ∀ (n47 : Int), (n47 = IntKind.i64.wrap ((9223372036854775807 : Int) - v_42.snd)) → (inK .i64 n47) → br (decide (n44 > n47)) ((False)) (∀ (n50 : Int), (n50 = (↑(l.getD (↑v_42.fst : Int).toNat (dflt 6)).length : Int)) → (inK .i64 n50) → ∀ (n53 : Int), (n53 = IntKind.i64.wrap (v_42.snd + n50)) → (inK .i64 n53) → ∀ (n56 : Int), (n56 = IntKind.i64.wrap ((↑v_42.fst : Int) + (1 : Int))) → (inK .i64 n56) → ∃ (v' : Nat × Int), (l = l) ∧ (n53 = v'.snd) ∧ (l = l) ∧ ((↑l.length : Int) = (↑l.length : Int)) ∧ (n56 = (↑v'.fst : Int)) ∧ ((v'.fst ≤ l.length) ∧ ((0 ≤ v'.snd) ∧ (v'.snd ≤ (100000 : Int))) ∧ (v'.snd = (↑(catL l v'.fst).length : Int))) ∧ (l.length - v'.fst < l.length - v_42.fst))) (((0 ≤ v_42.snd) ∧ (v_42.snd ≤ 1000000)) ∧ ∀ (xs_59 : List UInt8), ∀ (q_60 : Nat), ((↑q_60 : Int) = v_42.snd) → (xs_59.length = q_60) → (0 ≤ v_42.snd) ∧ (v_42.snd ≤ v_42.snd) ∧ (v_42.snd ≤ (↑q_60 : Int)) ∧ ((0 : Int) ≤ (0 : Int)) ∧ ((0 : Int) < (↑l.length : Int)) ∧ ∀ (z63 : List UInt8), (z63 = List.take 0 xs_59 ++ List.take ((l.getD (Int.toNat (0 : Int)) (dflt 6)).length.min v_42.snd.toNat) (l.getD (Int.toNat (0 : Int)) (dflt 6)) ++ List.drop (0 + (l.getD (Int.toNat (0 : Int)) (dflt 6)).length.min v_42.snd.toNat) xs_59) → ((0 : Int) ≤ (1 : Int)) ∧ ((1 : Int) ≤ (↑l.length : Int)) ∧ ∀ (n65 : Int), (n65 = (↑(List.drop (Int.toNat (1 : Int)) l).length : Int)) → (inK .i64 n65) → (∃ (v : Nat × Int × List UInt8), (0 = 0) ∧ (v_42.snd.toNat = l.flatten.length) ∧ ((↑((l.getD (Int.toNat (0 : Int)) (dflt 6)).length.min v_42.snd.toNat) : Int) = v.snd.fst) ∧ (List.drop (Int.toNat (1 : Int)) l = List.drop 1 l) ∧ (n65 = (↑(List.drop 1 l).length : Int)) ∧ ((0 : Int) = (↑v.fst : Int)) ∧ (z63 = v.snd.snd) ∧ (v.fst ≤ (List.drop 1 l).length) ∧ ((0 ≤ v.snd.fst) ∧ (v.snd.fst ≤ 100000)) ∧ (v.snd.fst = (↑(catL l (v.fst + 1)).length : Int)) ∧ (v.snd.snd.length = l.flatten.length) ∧ (JO l (v.fst + 1) v.snd.snd)) ∧ ∀ (v_68 : Nat × Int × List UInt8), (v_68.fst ≤ (List.drop 1 l).length ∧ (0 ≤ v_68.snd.fst ∧ v_68.snd.fst ≤ 100000) ∧ v_68.snd.fst = (↑(catL l (v_68.fst + 1)).length : Int) ∧ v_68.snd.snd.length = l.flatten.length ∧ JO l (v_68.fst + 1) v_68.snd.snd) → br (decide ((↑v_68.fst : Int) < (↑(List.drop 1 l).length : Int))) (((0 : Int) ≤ (↑v_68.fst : Int)) ∧ ((↑v_68.fst : Int) < (↑(List.drop 1 l).length : Int)) ∧ (0 ≤ v_68.snd.fst) ∧ (v_68.snd.fst ≤ (↑l.flatten.length : Int)) ∧ ∀ (z70 : List UInt8), (z70 = List.take (0 + v_68.snd.fst.toNat) v_68.snd.snd ++ List.take (Nat.min 0 (l.flatten.length - v_68.snd.fst.toNat)) [] ++ List.drop (0 + v_68.snd.fst.toNat + Nat.min 0 (l.flatten.length - v_68.snd.fst.toNat)) v_68.snd.snd) → ∀ (n72 : Int), (n72 = IntKind.i64.wrap (v_68.snd.fst + (↑(Nat.min 0 (l.flatten.length - v_68.snd.fst.toNat)) : Int))) → (inK .i64 n72) → (0 ≤ n72) ∧ (n72 ≤ (↑l.flatten.length : Int)) ∧ ∀ (z75 : List UInt8), (z75 = List.take (0 + n72.toNat) z70 ++ List.take (((List.drop 1 l).getD (↑v_68.fst : Int).toNat (dflt 6)).length.min (l.flatten.length - n72.toNat)) ((List.drop 1 l).getD (↑v_68.fst : Int).toNat (dflt 6)) ++ List.drop (0 + n72.toNat + ((List.drop 1 l).getD (↑v_68.fst : Int).toNat (dflt 6)).length.min (l.flatten.length - n72.toNat)) z70) → ∀ (n77 : Int), (n77 = IntKind.i64.wrap (n72 + (↑(((List.drop 1 l).getD (↑v_68.fst : Int).toNat (dflt 6)).length.min (l.flatten.length - n72.toNat)) : Int))) → (inK .i64 n77) → ∀ (n80 : Int), (n80 = IntKind.i64.wrap ((↑v_68.fst : Int) + (1 : Int))) → (inK .i64 n80) → ∃ (v' : Nat × Int × List UInt8), (0 = 0) ∧ (l.flatten.length = l.flatten.length) ∧ (n77 = v'.snd.fst) ∧ (List.drop 1 l = List.drop 1 l) ∧ ((↑(List.drop 1 l).length : Int) = (↑(List.drop 1 l).length : Int)) ∧ (n80 = (↑v'.fst : Int)) ∧ (z75 = v'.snd.snd) ∧ ((v'.fst ≤ (List.drop 1 l).length) ∧ ((0 ≤ v'.snd.fst) ∧ (v'.snd.fst ≤ (100000 : Int))) ∧ (v'.snd.fst = (↑(catL l (v'.fst + 1)).length : Int)) ∧ (v'.snd.snd.length = l.flatten.length) ∧ (JO l (v'.fst + 1) v'.snd.snd)) ∧ ((List.drop 1 l).length - v'.fst < (List.drop 1 l).length - v_68.fst)) ((k (.row 0 0 0 l.flatten.length) [] [.row 0 v_68.snd.snd]))))) (∀ (n83 : Int), (n83 = (↑l.length : Int)) → (inK .i64 n83) → (∃ (v : Nat × Int), (l = l) ∧ (0 = v.snd) ∧ (l = l) ∧ (n83 = (↑l.length : Int)) ∧ ((0 : Int) = (↑v.fst : Int)) ∧ (v.fst ≤ l.length) ∧ ((0 ≤ v.snd) ∧ (v.snd ≤ 100000)) ∧ (v.snd = (↑(catL l v.fst).length : Int))) ∧ ∀ (v_86 : Nat × Int), (v_86.fst ≤ l.length ∧ (0 ≤ v_86.snd ∧ v_86.snd ≤ 100000) ∧ v_86.snd = (↑(catL l v_86.fst).length : Int)) → br (decide ((↑v_86.fst : Int) < (↑l.length : Int))) (((0 : Int) ≤ (↑v_86.fst : Int)) ∧ ((↑v_86.fst : Int) < (↑l.length : Int)) ∧ ∀ (n88 : Int), (n88 = (↑(l.getD (↑v_86.fst : Int).toNat (dflt 6)).length : Int)) → (inK .i64 n88) → ∀ (n91 : Int), (n91 = IntKind.i64.wrap ((9223372036854775807 : Int) - v_86.snd)) → (inK .i64 n91) → br (decide (n88 > n91)) ((False)) (∀ (n94 : Int), (n94 = (↑(l.getD (↑v_86.fst : Int).toNat (dflt 6)).length : Int)) → (inK .i64 n94) → ∀ (n97 : Int), (n97 = IntKind.i64.wrap (v_86.snd + n94)) → (inK .i64 n97) → ∀ (n100 : Int), (n100 = IntKind.i64.wrap ((↑v_86.fst : Int) + (1 : Int))) → (inK .i64 n100) → ∃ (v' : Nat × Int), (l = l) ∧ (n97 = v'.snd) ∧ (l = l) ∧ ((↑l.length : Int) = (↑l.length : Int)) ∧ (n100 = (↑v'.fst : Int)) ∧ ((v'.fst ≤ l.length) ∧ ((0 ≤ v'.snd) ∧ (v'.snd ≤ (100000 : Int))) ∧ (v'.snd = (↑(catL l v'.fst).length : Int))) ∧ (l.length - v'.fst < l.length - v_86.fst))) (((0 ≤ v_86.snd) ∧ (v_86.snd ≤ 1000000)) ∧ ∀ (xs_103 : List UInt8), ∀ (q_104 : Nat), ((↑q_104 : Int) = v_86.snd) → (xs_103.length = q_104) → (0 ≤ v_86.snd) ∧ (v_86.snd ≤ v_86.snd) ∧ (v_86.snd ≤ (↑q_104 : Int)) ∧ ((0 : Int) ≤ (0 : Int)) ∧ ((0 : Int) < (↑l.length : Int)) ∧ ∀ (z107 : List UInt8), (z107 = List.take 0 xs_103 ++ List.take ((l.getD (Int.toNat (0 : Int)) (dflt 6)).length.min v_86.snd.toNat) (l.getD (Int.toNat (0 : Int)) (dflt 6)) ++ List.drop (0 + (l.getD (Int.toNat (0 : Int)) (dflt 6)).length.min v_86.snd.toNat) xs_103) → ((0 : Int) ≤ (1 : Int)) ∧ ((1 : Int) ≤ (↑l.length : Int)) ∧ ∀ (n109 : Int), (n109 = (↑(List.drop (Int.toNat (1 : Int)) l).length : Int)) → (inK .i64 n109) → (∃ (v : Nat × Int × List UInt8), (0 = 0) ∧ (v_86.snd.toNat = l.flatten.length) ∧ ((↑((l.getD (Int.toNat (0 : Int)) (dflt 6)).length.min v_86.snd.toNat) : Int) = v.snd.fst) ∧ (List.drop (Int.toNat (1 : Int)) l = List.drop 1 l) ∧ (n109 = (↑(List.drop 1 l).length : Int)) ∧ ((0 : Int) = (↑v.fst : Int)) ∧ (z107 = v.snd.snd) ∧ (v.fst ≤ (List.drop 1 l).length) ∧ ((0 ≤ v.snd.fst) ∧ (v.snd.fst ≤ 100000)) ∧ (v.snd.fst = (↑(catL l (v.fst + 1)).length : Int)) ∧ (v.snd.snd.length = l.flatten.length) ∧ (JO l (v.fst + 1) v.snd.snd)) ∧ ∀ (v_112 : Nat × Int × List UInt8), (v_112.fst ≤ (List.drop 1 l).length ∧ (0 ≤ v_112.snd.fst ∧ v_112.snd.fst ≤ 100000) ∧ v_112.snd.fst = (↑(catL l (v_112.fst + 1)).length : Int) ∧ v_112.snd.snd.length = l.flatten.length ∧ JO l (v_112.fst + 1) v_112.snd.snd) → br (decide ((↑v_112.fst : Int) < (↑(List.drop 1 l).length : Int))) (((0 : Int) ≤ (↑v_112.fst : Int)) ∧ ((↑v_112.fst : Int) < (↑(List.drop 1 l).length : Int)) ∧ (0 ≤ v_112.snd.fst) ∧ (v_112.snd.fst ≤ (↑l.flatten.length : Int)) ∧ ∀ (z114 : List UInt8), (z114 = List.take (0 + v_112.snd.fst.toNat) v_112.snd.snd ++ List.take (Nat.min 0 (l.flatten.length - v_112.snd.fst.toNat)) [] ++ List.drop (0 + v_112.snd.fst.toNat + Nat.min 0 (l.flatten.length - v_112.snd.fst.toNat)) v_112.snd.snd) → ∀ (n116 : Int), (n116 = IntKind.i64.wrap (v_112.snd.fst + (↑(Nat.min 0 (l.flatten.length - v_112.snd.fst.toNat)) : Int))) → (inK .i64 n116) → (0 ≤ n116) ∧ (n116 ≤ (↑l.flatten.length : Int)) ∧ ∀ (z119 : List UInt8), (z119 = List.take (0 + n116.toNat) z114 ++ List.take (((List.drop 1 l).getD (↑v_112.fst : Int).toNat (dflt 6)).length.min (l.flatten.length - n116.toNat)) ((List.drop 1 l).getD (↑v_112.fst : Int).toNat (dflt 6)) ++ List.drop (0 + n116.toNat + ((List.drop 1 l).getD (↑v_112.fst : Int).toNat (dflt 6)).length.min (l.flatten.length - n116.toNat)) z114) → ∀ (n121 : Int), (n121 = IntKind.i64.wrap (n116 + (↑(((List.drop 1 l).getD (↑v_112.fst : Int).toNat (dflt 6)).length.min (l.flatten.length - n116.toNat)) : Int))) → (inK .i64 n121) → ∀ (n124 : Int), (n124 = IntKind.i64.wrap ((↑v_112.fst : Int) + (1 : Int))) → (inK .i64 n124) → ∃ (v' : Nat × Int × List UInt8), (0 = 0) ∧ (l.flatten.length = l.flatten.length) ∧ (n121 = v'.snd.fst) ∧ (List.drop 1 l = List.drop 1 l) ∧ ((↑(List.drop 1 l).length : Int) = (↑(List.drop 1 l).length : Int)) ∧ (n124 = (↑v'.fst : Int)) ∧ (z119 = v'.snd.snd) ∧ ((v'.fst ≤ (List.drop 1 l).length) ∧ ((0 ≤ v'.snd.fst) ∧ (v'.snd.fst ≤ (100000 : Int))) ∧ (v'.snd.fst = (↑(catL l (v'.fst + 1)).length : Int)) ∧ (v'.snd.snd.length = l.flatten.length) ∧ (JO l (v'.fst + 1) v'.snd.snd)) ∧ ((List.drop 1 l).length - v'.fst < (List.drop 1 l).length - v_112.fst)) ((k (.row 0 0 0 l.flatten.length) [] [.row 0 v_112.snd.snd])))))) := by
 intro n1 q1 ⟨l1, u1⟩
 refine br_intro (fun c1 => ?_) (fun c1 => ?_)
 ·
  simp at c1
  exfalso; omega
 simp at c1
 intro n4 q4 ⟨l4, u4⟩
 refine br_intro (fun c2 => ?_) (fun c2 => ?_)
 ·
  simp at c2
  exfalso; omega
 simp at c2
 intro n9 q9 ⟨l9, u9⟩
 refine brd (fun c3 => ?_) (fun c3 => ?_)
 ·
  exfalso; omega
 intro n83 q83 ⟨l83, u83⟩
 refine ⟨?_, ?_⟩
 ·
  refine ⟨(Int.toNat (0 : Int), (0 : Int)), rfl, rfl, rfl, by show n83 = (↑l.length : Int); assumption, by show (0 : Int) = (↑(Int.toNat (0 : Int)) : Int); omega, by show Int.toNat (0 : Int) ≤ l.length; omega, by first | omega | (dsimp only; omega), ?_⟩
  exact by rfl
 intro v_86 h4
 refine brd (fun c5 => ?_) (fun c5 => ?_)
 ·
  refine ⟨by first | omega | (dsimp only; omega), by assumption, ?_⟩
  intro n88 q88 ⟨l88, u88⟩ n91 q91
  rw [IntKind.wrap_i64] at q91
  intro ⟨l91, u91⟩
  refine brd (fun c6 => ?_) (fun c6 => ?_)
  ·
   rw [Int.toNat_natCast] at q88
   have ce := catL_elem (l := l) (i := v_86.fst) (by omega)
   omega
  intro n94 q94 ⟨l94, u94⟩ n97 q97
  rw [IntKind.wrap_i64] at q97
  intro ⟨l97, u97⟩ n100 q100
  rw [IntKind.wrap_i64] at q100
  intro ⟨l100, u100⟩
  refine ⟨(n100.toNat, n97), rfl, rfl, rfl, rfl, by show n100 = (↑n100.toNat : Int); omega, ?_⟩
  refine ⟨?_, ?_⟩
  ·
   refine ⟨by show n100.toNat ≤ l.length; omega, ?_⟩
   refine ⟨?_, ?_⟩
   ·
    refine ⟨by show (0 : Int) ≤ n97; omega, ?_⟩
    rw [Int.toNat_natCast] at q94
    have ce := catL_elem (l := l) (i := v_86.fst) (by omega)
    omega
   rw [Int.toNat_natCast] at q94
   have ce := catL_elem (l := l) (i := v_86.fst) (by omega)
   rw [show n100.toNat = v_86.fst + 1 by omega, catL_step (by omega), List.length_append]; omega
  exact by show l.length - n100.toNat < l.length - v_86.fst; omega
 refine ⟨by first | omega | (dsimp only; omega), ?_⟩
 intro xs_103 q_104 h7 h8
 refine ⟨by first | omega | (dsimp only; omega), by first | omega | (dsimp only; omega), by first | omega | (dsimp only; omega), by first | omega | (dsimp only; omega), by first | omega | (dsimp only; omega), ?_⟩
 intro z107 qz107
 refine ⟨by first | omega | (dsimp only; omega), by first | omega | (dsimp only; omega), ?_⟩
 intro n109 q109 ⟨l109, u109⟩
 refine ⟨?_, ?_⟩
 ·
  refine ⟨(Int.toNat (0 : Int), (↑((l.getD (Int.toNat (0 : Int)) (dflt (6 : Nat))).length.min v_86.snd.toNat) : Int), z107), rfl, ?_⟩
  have h9 : v_86.snd.toNat = l.flatten.length := by
   have := catL_all (l := l) (i := v_86.fst) (by omega); rw [this] at h4; omega
  refine ⟨h9, rfl, by rfl, by show n109 = (↑(List.drop (1 : Nat) l).length : Int); assumption, by show (0 : Int) = (↑(Int.toNat (0 : Int)) : Int); omega, rfl, by show Int.toNat (0 : Int) ≤ (List.drop (1 : Nat) l).length; omega, ?_⟩
  refine ⟨?_, ?_⟩
  ·
   refine ⟨by show (0 : Int) ≤ (↑((l.getD (Int.toNat (0 : Int)) (dflt (6 : Nat))).length.min v_86.snd.toNat) : Int); omega, ?_⟩
   have fl : v_86.snd.toNat = l.flatten.length := by have := catL_all (l := l) (i := v_86.fst) (by omega); rw [this] at h4; omega
   have := Nat.min_le_right (l.getD (Int.toNat 0) (dflt 6)).length v_86.snd.toNat
   have e : (l.getD (Int.toNat 0) (dflt 6)).length.min v_86.snd.toNat ≤ v_86.snd.toNat := this
   dsimp only
   omega
  have h10 : (↑((l.getD (Int.toNat (0 : Int)) (dflt (6 : Nat))).length.min v_86.snd.toNat) : Int) = (↑(catL l (Int.toNat (0 : Int) + (1 : Nat))).length : Int) := by
   have fl : v_86.snd.toNat = l.flatten.length := by have := catL_all (l := l) (i := v_86.fst) (by omega); rw [this] at h4; omega
   obtain ⟨j1, j2, j3⟩ := jo_first (l := l) (by omega) fl (by omega) qz107
   exact congrArg _ j1
  refine ⟨h10, ?_⟩
  have h11 : z107.length = l.flatten.length := by
   have fl : v_86.snd.toNat = l.flatten.length := by have := catL_all (l := l) (i := v_86.fst) (by omega); rw [this] at h4; omega
   obtain ⟨j1, j2, j3⟩ := jo_first (l := l) (by omega) fl (by omega) qz107
   exact j2
  refine ⟨h11, ?_⟩
  have fl : v_86.snd.toNat = l.flatten.length := by have := catL_all (l := l) (i := v_86.fst) (by omega); rw [this] at h4; omega
  obtain ⟨j1, j2, j3⟩ := jo_first (l := l) (by omega) fl (by omega) qz107
  exact j3
 intro v_112 h12
 refine brd (fun c13 => ?_) (fun c13 => ?_)
 ·
  refine ⟨by first | omega | (dsimp only; omega), by assumption, by first | omega | (dsimp only; omega), ?_⟩
  have h14 : v_112.snd.fst ≤ (↑l.flatten.length : Int) := by
   have e0 : Nat.min 0 (l.flatten.length - v_112.snd.fst.toNat) = 0 := Nat.min_eq_left (Nat.zero_le _)
   have ld : (List.drop 1 l).length = l.length - 1 := by simp
   have cl := catL_le l (v_112.fst + 1)
   omega
  refine ⟨h14, ?_⟩
  intro z114 qz114 n116 q116
  rw [IntKind.wrap_i64] at q116
  intro ⟨l116, u116⟩
  have h15 : (0 : Int) ≤ n116 := by
   have e0 : Nat.min 0 (l.flatten.length - v_112.snd.fst.toNat) = 0 := Nat.min_eq_left (Nat.zero_le _)
   have ld : (List.drop 1 l).length = l.length - 1 := by simp
   have cl := catL_le l (v_112.fst + 1)
   rw [e0] at q116
   have n1 : n116 = v_112.snd.fst := by omega
   omega
  refine ⟨h15, ?_⟩
  have h16 : n116 ≤ (↑l.flatten.length : Int) := by
   have e0 : Nat.min 0 (l.flatten.length - v_112.snd.fst.toNat) = 0 := Nat.min_eq_left (Nat.zero_le _)
   have ld : (List.drop 1 l).length = l.length - 1 := by simp
   have cl := catL_le l (v_112.fst + 1)
   rw [e0] at q116
   have n1 : n116 = v_112.snd.fst := by omega
   omega
  refine ⟨h16, ?_⟩
  intro z119 qz119 n121 q121
  rw [IntKind.wrap_i64] at q121
  intro ⟨l121, u121⟩ n124 q124
  rw [IntKind.wrap_i64] at q124
  intro ⟨l124, u124⟩
  refine ⟨(n124.toNat, n121, z119), rfl, rfl, rfl, rfl, rfl, ?_⟩
  have h17 : n124 = (↑n124.toNat : Int) := by
   have ld : (List.drop 1 l).length = l.length - 1 := by simp
   omega
  refine ⟨h17, rfl, ?_⟩
  refine ⟨?_, ?_⟩
  ·
   refine ⟨by show n124.toNat ≤ (List.drop (1 : Nat) l).length; omega, ?_⟩
   refine ⟨?_, ?_⟩
   ·
    have h18 : (0 : Int) ≤ n121 := by
     have e0 : Nat.min 0 (l.flatten.length - v_112.snd.fst.toNat) = 0 := Nat.min_eq_left (Nat.zero_le _)
     have ld : (List.drop 1 l).length = l.length - 1 := by simp
     have cl := catL_le l (v_112.fst + 1)
     rw [e0] at q116
     have n1 : n116 = v_112.snd.fst := by omega
     have z1 : z114 = v_112.snd.snd := by rw [qz114, e0]; simp
     rw [Int.toNat_natCast, get_drop] at q121 qz119
     rw [z1] at qz119
     obtain ⟨j1, j2, j3⟩ := jo_step (l := l) (i := v_112.fst + 1) (p := n116.toNat) (by omega) (by omega) h12.2.2.2.1 h12.2.2.2.2 qz119
     have ce := catL_elem (l := l) (i := v_112.fst + 1) (by omega)
     have cs := catL_step (l := l) (i := v_112.fst + 1) (by omega)
     have cn : (catL l (v_112.fst + 1 + 1)).length = (catL l (v_112.fst + 1)).length + (l.getD (v_112.fst + 1) (dflt 6)).length := by rw [cs, List.length_append]
     rw [j1] at q121
     have n2 : n121 = v_112.snd.fst + ((l.getD (v_112.fst + 1) (dflt 6)).length : Int) := by omega
     have n3 : n124.toNat = v_112.fst + 1 := by omega
     omega
    refine ⟨h18, ?_⟩
    have e0 : Nat.min 0 (l.flatten.length - v_112.snd.fst.toNat) = 0 := Nat.min_eq_left (Nat.zero_le _)
    have ld : (List.drop 1 l).length = l.length - 1 := by simp
    have cl := catL_le l (v_112.fst + 1)
    rw [e0] at q116
    have n1 : n116 = v_112.snd.fst := by omega
    have z1 : z114 = v_112.snd.snd := by rw [qz114, e0]; simp
    rw [Int.toNat_natCast, get_drop] at q121 qz119
    rw [z1] at qz119
    obtain ⟨j1, j2, j3⟩ := jo_step (l := l) (i := v_112.fst + 1) (p := n116.toNat) (by omega) (by omega) h12.2.2.2.1 h12.2.2.2.2 qz119
    have ce := catL_elem (l := l) (i := v_112.fst + 1) (by omega)
    have cs := catL_step (l := l) (i := v_112.fst + 1) (by omega)
    have cn : (catL l (v_112.fst + 1 + 1)).length = (catL l (v_112.fst + 1)).length + (l.getD (v_112.fst + 1) (dflt 6)).length := by rw [cs, List.length_append]
    rw [j1] at q121
    have n2 : n121 = v_112.snd.fst + ((l.getD (v_112.fst + 1) (dflt 6)).length : Int) := by omega
    have n3 : n124.toNat = v_112.fst + 1 := by omega
    dsimp only
    omega
   have h19 : n121 = (↑(catL l (n124.toNat + (1 : Nat))).length : Int) := by
    have e0 : Nat.min 0 (l.flatten.length - v_112.snd.fst.toNat) = 0 := Nat.min_eq_left (Nat.zero_le _)
    have ld : (List.drop 1 l).length = l.length - 1 := by simp
    have cl := catL_le l (v_112.fst + 1)
    rw [e0] at q116
    have n1 : n116 = v_112.snd.fst := by omega
    have z1 : z114 = v_112.snd.snd := by rw [qz114, e0]; simp
    rw [Int.toNat_natCast, get_drop] at q121 qz119
    rw [z1] at qz119
    obtain ⟨j1, j2, j3⟩ := jo_step (l := l) (i := v_112.fst + 1) (p := n116.toNat) (by omega) (by omega) h12.2.2.2.1 h12.2.2.2.2 qz119
    have ce := catL_elem (l := l) (i := v_112.fst + 1) (by omega)
    have cs := catL_step (l := l) (i := v_112.fst + 1) (by omega)
    have cn : (catL l (v_112.fst + 1 + 1)).length = (catL l (v_112.fst + 1)).length + (l.getD (v_112.fst + 1) (dflt 6)).length := by rw [cs, List.length_append]
    rw [j1] at q121
    have n2 : n121 = v_112.snd.fst + ((l.getD (v_112.fst + 1) (dflt 6)).length : Int) := by omega
    have n3 : n124.toNat = v_112.fst + 1 := by omega
    rw [n3, cn]; omega
   refine ⟨h19, ?_⟩
   have h20 : z119.length = l.flatten.length := by
    have e0 : Nat.min 0 (l.flatten.length - v_112.snd.fst.toNat) = 0 := Nat.min_eq_left (Nat.zero_le _)
    have ld : (List.drop 1 l).length = l.length - 1 := by simp
    have cl := catL_le l (v_112.fst + 1)
    rw [e0] at q116
    have n1 : n116 = v_112.snd.fst := by omega
    have z1 : z114 = v_112.snd.snd := by rw [qz114, e0]; simp
    rw [Int.toNat_natCast, get_drop] at q121 qz119
    rw [z1] at qz119
    obtain ⟨j1, j2, j3⟩ := jo_step (l := l) (i := v_112.fst + 1) (p := n116.toNat) (by omega) (by omega) h12.2.2.2.1 h12.2.2.2.2 qz119
    have ce := catL_elem (l := l) (i := v_112.fst + 1) (by omega)
    have cs := catL_step (l := l) (i := v_112.fst + 1) (by omega)
    have cn : (catL l (v_112.fst + 1 + 1)).length = (catL l (v_112.fst + 1)).length + (l.getD (v_112.fst + 1) (dflt 6)).length := by rw [cs, List.length_append]
    rw [j1] at q121
    have n2 : n121 = v_112.snd.fst + ((l.getD (v_112.fst + 1) (dflt 6)).length : Int) := by omega
    have n3 : n124.toNat = v_112.fst + 1 := by omega
    exact j2
   refine ⟨h20, ?_⟩
   have e0 : Nat.min 0 (l.flatten.length - v_112.snd.fst.toNat) = 0 := Nat.min_eq_left (Nat.zero_le _)
   have ld : (List.drop 1 l).length = l.length - 1 := by simp
   have cl := catL_le l (v_112.fst + 1)
   rw [e0] at q116
   have n1 : n116 = v_112.snd.fst := by omega
   have z1 : z114 = v_112.snd.snd := by rw [qz114, e0]; simp
   rw [Int.toNat_natCast, get_drop] at q121 qz119
   rw [z1] at qz119
   obtain ⟨j1, j2, j3⟩ := jo_step (l := l) (i := v_112.fst + 1) (p := n116.toNat) (by omega) (by omega) h12.2.2.2.1 h12.2.2.2.2 qz119
   have ce := catL_elem (l := l) (i := v_112.fst + 1) (by omega)
   have cs := catL_step (l := l) (i := v_112.fst + 1) (by omega)
   have cn : (catL l (v_112.fst + 1 + 1)).length = (catL l (v_112.fst + 1)).length + (l.getD (v_112.fst + 1) (dflt 6)).length := by rw [cs, List.length_append]
   rw [j1] at q121
   have n2 : n121 = v_112.snd.fst + ((l.getD (v_112.fst + 1) (dflt 6)).length : Int) := by omega
   have n3 : n124.toNat = v_112.fst + 1 := by omega
   rw [n3]; exact j3
  have ld : (List.drop 1 l).length = l.length - 1 := by simp
  omega
 have ld : (List.drop 1 l).length = l.length - 1 := by simp
 exact hk _ _ (jo_all h12.2.2.2.2 (by omega) h12.2.2.2.1) h12.2.2.2.1
theorem join_ok : Holds Try.prog 36 joinS := by
  refine fn_sound (env := mkEnv H1) (tab_ok H1_ok) Try.func36 Try.call36 fun args k h => ?_
  match args, h with
  | [.sl 6 l, .nilsl], h => exact ⟨by kernel_rfl, joinLoops l, fun _ _ => none, .cast (by kernel_rfl) (join_vc l h.1 k h.2)⟩
end Go.Proofs.Ytcdflgfhkohldaa
