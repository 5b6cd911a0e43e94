import Derived.Test.YtkcnpemaocdnkaaWrC
import Derived.Test.YtkcnpemaocdnkaaWrF
import Derived.Test.YtkcnpemaocdnkaaEngY
namespace Go.Proofs.Ytkcnpemaocdnkaa
open Go Go.Eng Go.Wr Go.Proofs
set_option linter.unusedVariables false
def wAll (args : List AV) (P : List UInt8 → List UInt8 → Int → Int → Prop) : Prop := match args with
  | [.sl 0 held, .sl 0 ins, .int .u8 what, .int .i64 p] => inK .u8 what ∧ inK .i64 p ∧ P held ins what p
  | _ => False
/-- What is answered is written no more. -/
def nextF : Eng.Spec := { ro := false, own := [], run := fun args _ k => wAll (args.map nilB) fun held ins what p => ∀ (e : Int) (ys us : List UInt8), e = wE held.length ins.length what p → (e = 0 → ys = held ++ wOut ins what p) → (e = 0 → us = if what = 3 then ins else []) → k (.tup [.sl 0 ys, .sl 0 us, .int .i64 e]) [] [] }
/-- What is answered is rows of their own. -/
def nextR : Eng.Spec := { ro := true, own := [], run := fun args _ k => wAll (args.map nilB) fun held ins what p => ∀ (e : Int) (ys us : List UInt8) (n m : Nat), e = wE held.length ins.length what p → (e = 0 → ys = held ++ wOut ins what p) → (e = 0 → us = if what = 3 then ins else []) → (e ≠ 0 → ys = [] ∧ us = []) → ys.length = n → us.length = m → k (.tup [.row 0 0 0 n, .row 0 1 0 m, .int .i64 e]) [] [.row 0 ys, .row 0 us] }
def nextN : Eng.Spec := { nextS with run := fun args B k => nextS.run (args.map nilB) B k }
theorem wOut3 (ins : List UInt8) {what : Int} (p : Int) (h : what = 3) : wOut ins what p = [] := by subst h; rfl
theorem nextF_of {f : Nat} (h : Holds Try.prog f nextS) : Holds Try.prog f nextF := by
  have h1 : Holds Try.prog f nextN := h.nil
  have h2 := Holds.fzA (t := { ro := false, own := [], run := fun args B k => nextN.run args B (fzA k) }) h1 rfl rfl rfl fun _ _ h => h
  refine h2.up nilT (fun _ _ _ _ _ h => nilT_rep h) rfl rfl rfl fun args k h => ?_
  unfold nextF at h
  dsimp only at h
  show nextS.run (args.map nilB) [] _
  generalize args.map nilB = l at h
  unfold wAll at h
  split at h
  · rename_i held ins what p
    obtain ⟨a1, a2, h⟩ := h
    refine ⟨a1, a2, fun e he h0 => h e [] [] he (fun c => by omega) (fun c => by omega), fun h0 h3 => ?_, fun h0 h3 ys n hy hn => ?_⟩
    · show k (.tup [.sl 0 ((held.drop 0).take held.length), .sl 0 ((ins.drop 0).take ins.length), .int .i64 0]) [] []
      rw [List.drop_zero, List.drop_zero, List.take_length, List.take_length]
      exact h 0 held ins h0.symm (fun _ => by rw [wOut3 _ _ h3, List.append_nil]) (fun _ => by rw [if_pos h3])
    · show k (.tup [.sl 0 ((ys.drop 0).take n), .sl 0 [], .int .i64 0]) [] []
      rw [List.drop_zero, ← hn, List.take_length]
      exact h 0 ys [] h0.symm (fun _ => hy) (fun _ => by rw [if_neg h3])
  · exact h.elim
theorem nextR_of {f : Nat} (h : Holds Try.prog f nextS) : Holds Try.prog f nextR := by
  have h1 : Holds Try.prog f nextN := h.nil
  have h2 := Holds.nlAt (t := { ro := true, own := [], run := fun args B k => nextN.run args B (nlP 0 0 k) }) 0 0 h1 rfl rfl rfl fun _ _ h => h
  refine h2.nlAt 0 1 rfl rfl rfl fun args k h => ?_
  unfold nextR at h
  dsimp only at h
  show nextS.run (args.map nilB) [] _
  generalize args.map nilB = l at h
  unfold wAll at h
  split at h
  · rename_i held ins what p
    obtain ⟨a1, a2, h⟩ := h
    refine ⟨a1, a2, fun e he h0 => ?_, fun h0 h3 => ?_, fun h0 h3 ys n hy hn => ?_⟩
    · exact h e [] [] 0 0 he (fun c => by omega) (fun c => by omega) (fun _ => ⟨rfl, rfl⟩) rfl rfl
    · exact h 0 held ins _ _ h0.symm (fun _ => by rw [wOut3 _ _ h3, List.append_nil]) (fun _ => by rw [if_pos h3]) (fun c => absurd rfl c) rfl rfl
    · exact h 0 ys [] n 0 h0.symm (fun _ => hy) (fun _ => by rw [if_neg h3]) (fun c => absurd rfl c) hn rfl
  · exact h.elim
theorem nextF_ok : Holds Try.prog 9 nextF := nextF_of wnext_ok
theorem rnextF_ok : Holds Try.prog 13 nextF := nextF_of rnext_ok
theorem nextR_ok : Holds Try.prog 9 nextR := nextR_of wnext_ok
theorem rnextR_ok : Holds Try.prog 13 nextR := nextR_of rnext_ok
def T3 : Tab := [(9, nextF), (13, nextF)]
theorem T3_ok : TabOk Try.prog T3 := ⟨nextF_ok, rnextF_ok, trivial⟩
def runS : Eng.Spec := { ro := false, own := [], run := fun args _ k => match args with
  | [.sl 6 l, .sl 0 w, .sl 1 a] => (∀ e : Int, e = rE l w a → e ≠ 0 → k (.tup [.nilsl, .int .i64 e]) [] []) ∧ (rE l w a = 0 → ∀ ys : List (List UInt8), ys = outs l w a l.length → k (.tup [.row 6 0 0 l.length, .int .i64 0]) [] [.row 6 ys])
  | _ => False }
def runLoops (l : List (List UInt8)) (w : List UInt8) (a : List Int) : List Nat → Nat → Option LoopAnn := fun _ r => match r with
  | 6 => some { V := Int × List UInt8 × List (List UInt8), st := fun v => ⟨mk 63 [(0, .sl 6 l), (1, .sl 0 w), (2, .sl 1 a), (8, .row 6 4002 0 l.length), (9, .sl 0 v.2.1), (33, .int .i64 l.length), (34, .int .i64 v.1)], [], [(4002, .row 6 v.2.2)]⟩, I := fun v => (0 ≤ v.1 ∧ v.1 ≤ l.length) ∧ v.2.1 = holdN l w v.1.toNat ∧ v.2.2 = rows l w a v.1.toNat ∧ firstE l w a v.1.toNat = 0 ∧ l.length ≤ 4096 ∧ w.length = l.length ∧ a.length = l.length, μ := fun v => (l.length - v.1).toNat }
  | _ => none
def rrunLoops (l : List (List UInt8)) (w : List UInt8) (a : List Int) : List Nat → Nat → Option LoopAnn := fun _ r => match r with
  | 6 => some { V := Int × List UInt8 × List (List UInt8), st := fun v => ⟨mk 64 [(0, .sl 6 l), (1, .sl 0 w), (2, .sl 1 a), (8, .row 6 7777 0 v.2.2.length), (9, .sl 0 v.2.1), (10, .int .i64 v.1)], [], [(7777, .row 6 v.2.2)]⟩, I := fun v => (0 ≤ v.1 ∧ v.1 ≤ l.length) ∧ v.2.1 = holdN l w v.1.toNat ∧ v.2.2 = outs l w a v.1.toNat ∧ (v.2.2.length : Int) = v.1 ∧ firstE l w a v.1.toNat = 0 ∧ l.length ≤ 4096 ∧ w.length = l.length ∧ a.length = l.length, μ := fun v => (l.length - v.1).toNat, boxes := [(8, 7777, 6)] }
  | _ => none
def joinedS : Eng.Spec := { ro := true, own := [], run := fun args _ k => match args with
  | [.sl 6 l] => tot l ≤ 3000000 ∧ ∀ (ys : List UInt8) (n : Nat), ys = l.flatten → ys.length = n → k (.row 0 0 0 n) [] [.row 0 ys]
  | _ => False }
def joinedLoops (l : List (List UInt8)) : List Nat → Nat → Option LoopAnn := fun _ r => match r with
  | 3 => some { V := Int × List UInt8, st := fun v => ⟨mk 18 [(0, .sl 6 l), (3, .row 0 7777 0 v.2.length), (4, .int .i64 v.1)], [], [(7777, .row 0 v.2)]⟩, I := fun v => (0 ≤ v.1 ∧ v.1 ≤ l.length) ∧ v.2 = (l.take v.1.toNat).flatten ∧ v.2.length ≤ tot l ∧ tot l ≤ 3000000, μ := fun v => (l.length - v.1).toNat, boxes := [(3, 7777, 0)] }
  | _ => none
def smallS : Eng.Spec := { ro := true, own := [], run := fun args _ k => match args with
  | [.sl 6 l] => ∀ b : Bool, (b = true → l.length ≤ 200 ∧ tot l ≤ 16384) → k (.bool b) [] []
  | _ => False }
def smallLoops (l : List (List UInt8)) : List Nat → Nat → Option LoopAnn := fun _ r => match r with
  | 3 => some { V := Int × Int, st := fun v => ⟨mk 30 [(0, .sl 6 l), (3, .int .i64 v.2), (4, .int .i64 v.1)], [], []⟩, I := fun v => (0 ≤ v.1 ∧ v.1 ≤ l.length ∧ v.1 ≤ 500) ∧ v.2 = smin l 20000 v.1.toNat ∧ (0 ≤ v.2 ∧ v.2 ≤ 20000 * v.1), μ := fun v => (l.length - v.1).toNat }
  | _ => none
def heavyS : Eng.Spec := { ro := true, own := [], run := fun args _ k => match args with
  | [.sl 6 l] => l.length ≤ 1048576 ∧ ∀ b : Bool, (b = false → l.length ≤ 5000) → k (.bool b) [] []
  | _ => False }
def heavyLoops (l : List (List UInt8)) : List Nat → Nat → Option LoopAnn := fun _ r => match r with
  | 3 => some { V := Int × Int, st := fun v => ⟨mk 26 [(0, .sl 6 l), (3, .int .i64 v.2), (4, .int .i64 v.1)], [], []⟩, I := fun v => (0 ≤ v.1 ∧ v.1 ≤ l.length) ∧ v.2 = smin l 100000 v.1.toNat ∧ (0 ≤ v.2 ∧ v.2 ≤ 100000 * v.1) ∧ l.length ≤ 1048576, μ := fun v => (l.length - v.1).toNat }
  | _ => none
def twinS : Eng.Spec := { ro := false, own := [], run := fun args _ k => match args with
  | [.sl 6 l] => tot l ≤ 3000000 ∧ l.length ≤ 1000000 ∧ ∀ ys : List (List UInt8), ys = l → k (.row 6 0 0 l.length) [] [.row 6 ys]
  | _ => False }
def twinLoops (l : List (List UInt8)) : List Nat → Nat → Option LoopAnn := fun _ r => match r with
  | 3 => some { V := Int × List (List UInt8), st := fun v => ⟨mk 20 [(0, .sl 6 l), (3, .row 6 7777 0 v.2.length), (4, .int .i64 v.1)], [], [(7777, .row 6 v.2)]⟩, I := fun v => (0 ≤ v.1 ∧ v.1 ≤ l.length) ∧ v.2 = l.take v.1.toNat ∧ (v.2.length : Int) = v.1 ∧ tot l ≤ 3000000 ∧ l.length ≤ 1000000, μ := fun v => (l.length - v.1).toNat, boxes := [(3, 7777, 6)] }
  | _ => none
structure eqL (p q : List (List UInt8)) : Prop where
  e : p = q
def sameS : Eng.Spec := { ro := true, own := [], run := fun args _ k => match args with
  | [.sl 6 p, .sl 6 q] => ∀ b : Bool, (eqL p q → b = true) → k (.bool b) [] []
  | _ => False }
def sameLoops (p q : List (List UInt8)) : List Nat → Nat → Option LoopAnn := fun _ r => match r with
  | 4 => some { V := Int, st := fun v => ⟨mk 28 [(0, .sl 6 p), (1, .sl 6 q), (5, .int .i64 v)], [], []⟩, I := fun v => (0 ≤ v ∧ v ≤ p.length) ∧ p.length = q.length, μ := fun v => (p.length - v).toNat }
  | _ => none
end Go.Proofs.Ytkcnpemaocdnkaa

