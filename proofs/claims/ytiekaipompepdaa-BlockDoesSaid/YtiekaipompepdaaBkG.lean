import Derived.Test.YtiekaipompepdaaBkF
namespace Go.Proofs.Ytiekaipompepdaa
open Go Go.Eng Go.Bk Go.Proofs
set_option linter.unusedVariables false
def N6 : Tab := [(9, doD)]
theorem N6_ok : TabOk Try.prog N6 := ⟨do_up bdo_ok, trivial⟩
def writeD : Eng.Spec := { ro := true, own := [], run := fun args _ k => match args with
  | [.agg [.sl 0 d], .int .i64 n, .sl 0 b] => d.length ≤ 1000000 ∧ ∀ (e : Int) (ys : List UInt8) (q : Nat), e = doE d [⟨n, b⟩] 1 0 → ys = doO d [⟨n, b⟩] 1 0 → ys.length = q → k (.tup [.agg [.row 0 0 0 q], .int .i64 e]) [] [.row 0 ys]
  | _ => False }
def writeS : Eng.Spec := { ro := true, own := [], run := fun args _ k => match args with
  | [.agg [.sl 0 d], .int .i64 n, .sl 0 b] => d.length ≤ 1000000 ∧ (∀ e : Int, e = doE d [⟨n, b⟩] 1 0 → e ≠ 0 → k (.tup [.agg [.nilsl], .int .i64 e]) [] []) ∧ (doE d [⟨n, b⟩] 1 0 = 0 → ∀ (ys : List UInt8) (q : Nat), ys = doO d [⟨n, b⟩] 1 0 → ys.length = q → k (.tup [.agg [.row 0 0 0 q], .int .i64 0]) [] [.row 0 ys])
  | _ => False }
theorem write_up {f : FuncId} (hf : Holds Try.prog f writeS) : Holds Try.prog f writeD := hf.nlAgg 0 0 0 rfl rfl rfl fun args k h => by
  unfold writeD at h
  dsimp only at h
  split at h
  · refine ⟨h.1, fun e he hz => h.2 e [] 0 he (by unfold doO; rw [if_neg (by rw [← he]; exact hz)]) rfl, fun hz ys n hy hn => h.2 0 ys n hz.symm hy hn⟩
  · exact h.elim
theorem one_E {d b : List UInt8} {n : Int} : doE d [⟨n, b⟩] 1 0 = if dOk d.length then raskE d.length n b else 180 := by
  unfold doE
  split
  · have e : putsE d.length [⟨n, b⟩] = raskE d.length n b := by
      unfold raskE putsE
      rfl
    rw [e]
    split
    · rename_i c
      rw [if_neg (by simp), c]
    · rfl
  · rfl
theorem one_O {d b : List UInt8} {n : Int} (h : doE d [⟨n, b⟩] 1 0 = 0) : doO d [⟨n, b⟩] 1 0 = wr d n b 64 := by
  unfold doO
  rw [if_pos h]
  show doF d [⟨n, b⟩] 1 0 (0 + 1) = _
  rw [doF, if_pos (by decide)]; rfl
def newD : Eng.Spec := { ro := true, own := [], run := fun args _ k => match args with
  | [.int .i64 n] => ∀ (e : Int) (ys : List UInt8) (q : Nat), e = newE n → ys = newO n → ys.length = q → k (.tup [.agg [.row 0 0 0 q], .int .i64 e]) [] [.row 0 ys]
  | _ => False }
theorem new_up {f : FuncId} (hf : Holds Try.prog f newS) : Holds Try.prog f newD := hf.nlAgg 0 0 0 rfl rfl rfl fun args k h => by
  unfold newD at h
  dsimp only at h
  split at h
  · refine ⟨fun hz => ?_, fun hz ys n hy hn => h 0 ys n hz.symm hy hn⟩
    unfold newE at hz
    split at hz
    · exact absurd rfl hz
    · rename_i c
      exact h 180 [] 0 (by unfold newE; rw [if_neg c]) (by unfold newO; rw [if_neg c]) rfl
  · exact h.elim
def N7 : Tab := [(13, newD), (15, onesS), (9, doD), (10, rdD)]
theorem N7_ok : TabOk Try.prog N7 := ⟨new_up new_ok, ones_ok, do_up bdo_ok, rd_up bread_ok, trivial⟩
def alvS : Eng.Spec := { ro := true, own := [], run := fun args _ k => match args with
  | [] => k (.bool true) [] []
  | _ => False }
/-- The example. -/
def one64 : List UInt8 := List.replicate 64 1
def exD : List UInt8 := doO (newO 2) [⟨0, one64⟩, ⟨1, one64⟩] 1 2
theorem ex_E : doE (newO 2) [⟨0, one64⟩, ⟨1, one64⟩] 1 2 = 0 := by decide +kernel
theorem ex_a : askE exD 0 = 0 ∧ askE exD 1 = 0 ∧ rdO exD 0 = one64 := by decide +kernel
theorem ex_b : (rdO exD 1).length = 64 ∧ (rdO exD 1).getD 1 0 = 1 ∧ (rdO exD 1).getD 2 0 = 0 := by decide +kernel
theorem ex_D {ys2 ysA ysB ysD : List UInt8} {q3 qA qB : Nat} (h2 : ys2 = newO 2) (h3 : ys2.length = q3) (h4 : ysA = List.replicate 64 (UInt8.ofNat (Int.toNat 1))) (h5 : ysA.length = qA) (h6 : ysB = List.replicate 64 (UInt8.ofNat (Int.toNat 1))) (h7 : ysB.length = qB)
    (h10 : ysD = doO (List.take q3 (List.drop 0 ys2)) (List.take 2 (List.drop 0 [⟨0, List.take qA (List.drop 0 ysA)⟩, ⟨1, List.take qB (List.drop 0 ysB)⟩])) 1 2) : ysD = exD := by
  rw [← h3, ← h5, ← h7] at h10
  simp only [List.drop_zero, List.take_length] at h10
  rw [h2, h4, h6] at h10
  exact h10
theorem ex_L : exD.length = 128 := by decide +kernel
theorem ex_fin {e1 e15 e21 e27 : Int} {ys2 ysA ysB ysD ys22 ys28 : List UInt8} {q3 qA qB nD q23 q29 : Nat} (h1 : e1 = newE 2) (h2 : ys2 = newO 2) (h3 : ys2.length = q3) (h4 : ysA = List.replicate 64 (UInt8.ofNat (Int.toNat 1))) (h5 : ysA.length = qA) (h6 : ysB = List.replicate 64 (UInt8.ofNat (Int.toNat 1))) (h7 : ysB.length = qB)
    (h9 : e15 = doE (List.take q3 (List.drop 0 ys2)) (List.take 2 (List.drop 0 [⟨0, List.take qA (List.drop 0 ysA)⟩, ⟨1, List.take qB (List.drop 0 ysB)⟩])) 1 2)
    (h10 : ysD = doO (List.take q3 (List.drop 0 ys2)) (List.take 2 (List.drop 0 [⟨0, List.take qA (List.drop 0 ysA)⟩, ⟨1, List.take qB (List.drop 0 ysB)⟩])) 1 2) (h11 : ysD.length = nD)
    (h13 : e21 = askE (List.take nD (List.drop 0 ysD)) 0) (h14 : ys22 = rdO (List.take nD (List.drop 0 ysD)) 0) (h15 : ys22.length = q23) (h16 : e27 = askE (List.take nD (List.drop 0 ysD)) 1) (h17 : ys28 = rdO (List.take nD (List.drop 0 ysD)) 1) (h18 : ys28.length = q29) :
    e1 = 0 ∧ e15 = 0 ∧ e21 = 0 ∧ e27 = 0 ∧ List.take q23 (List.drop 0 ys22) = one64 ∧ q29 = 64 ∧ ys28.getD 1 0 = 1 ∧ ys28.getD 2 0 = 0 := by
  have D := ex_D h2 h3 h4 h5 h6 h7 h10
  have T : List.take nD (List.drop 0 ysD) = exD := by rw [← h11, List.drop_zero, List.take_length, D]
  rw [T] at h13 h14 h16 h17
  rw [← h3, ← h5, ← h7] at h9
  simp only [List.drop_zero, List.take_length] at h9
  rw [h2, h4, h6] at h9
  refine ⟨h1.trans (by decide), h9.trans ex_E, h13.trans ex_a.1, h16.trans ex_a.2.1, ?_, ?_, ?_, ?_⟩
  · rw [← h15, List.drop_zero, List.take_length, h14]; exact ex_a.2.2
  · rw [← h18, h17]; exact ex_b.1
  · rw [h17]; exact ex_b.2.1
  · rw [h17]; exact ex_b.2.2
end Go.Proofs.Ytiekaipompepdaa

