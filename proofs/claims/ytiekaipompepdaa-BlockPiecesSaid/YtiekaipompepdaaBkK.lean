import Derived.Test.YtiekaipompepdaaBkI
namespace Go.Proofs.Ytiekaipompepdaa
open Go Go.Eng Go.Bk Go.Proofs
set_option linter.unusedVariables false
def lawTorn : Eng.Spec := { ro := true, own := [], run := fun args _ k => match args with
  | [.agg [.sl 0 d], .sl 9 l, .int .i64 w, .int .i64 t] => inK .i64 w ∧ inK .i64 t ∧ k (.bool true) [] []
  | _ => False }
def lawPieces : Eng.Spec := { ro := true, own := [], run := fun args _ k => match args with
  | [.agg [.sl 0 d], .sl 9 l, .int .i64 at_] => inK .i64 at_ ∧ k (.bool true) [] []
  | _ => False }
structure ApK (l : List Put) (i k : Nat) : Prop where
  a : Apart l i
  b : ∀ j, j < k → (l.getD j (dflt 9)).n ≠ (l.getD i (dflt 9)).n
theorem ap_0 (l : List Put) : Apart l 0 := ⟨fun j k _ h => by omega⟩
theorem apk_0 {l : List Put} {i : Nat} (h : Apart l i) : ApK l i 0 := ⟨h, fun j h => by omega⟩
theorem apk_step {l : List Put} {i k j : Nat} (h : ApK l i k) (hj : j = k + 1) (hne : (l.getD k (dflt 9)).n ≠ (l.getD i (dflt 9)).n) : ApK l i j := by
  subst hj
  refine ⟨h.a, fun q hq => ?_⟩
  by_cases c : q = k
  · rw [c]; exact hne
  · exact h.b q (by omega)
theorem ap_step {l : List Put} {i j : Nat} (h : ApK l i i) (hj : j = i + 1) : Apart l j := by
  subst hj
  refine ⟨fun q k hk hq => ?_⟩
  by_cases c : q = i
  · subst c; exact h.b k hk
  · exact h.a.e q k hk (by omega)
def tornLoops (d : List UInt8) (l : List Put) (w t : Int) : List Nat → Nat → Option LoopAnn := fun s r => match r with
  | 7 => some { V := Nat, st := fun v => ⟨mk 156 [(1, .sl 9 l), (2, .int .i64 w), (3, .int .i64 t), (4, .ptr 1000 0), (9, .bool true), (10, .int .i64 v)], [], [(1000, .cells [.sl 0 d])]⟩, I := fun v => v ≤ l.length ∧ (d.length ≤ 10000 ∧ l.length ≤ 64) ∧ Apart l v, μ := fun v => l.length - v, key := fun v => v }
  | 10 => some { V := Nat, st := fun v => ⟨mk 156 [(1, .sl 9 l), (2, .int .i64 w), (3, .int .i64 t), (4, .ptr 1000 0), (9, .bool true), (10, .int .i64 (s.headD 0 : Nat)), (11, .int .i64 v)], [], [(1000, .cells [.sl 0 d])]⟩, I := fun v => v ≤ s.headD 0 ∧ s.headD 0 < l.length ∧ (d.length ≤ 10000 ∧ l.length ≤ 64) ∧ ApK l (s.headD 0) v, μ := fun v => s.headD 0 - v }
  | 18 => some { V := Nat × Nat × List UInt8, st := fun v => ⟨mk 156 [(1, .sl 9 l), (2, .int .i64 w), (3, .int .i64 t), (4, .ptr 1000 0), (9, .bool true), (12, .ptr 15008 0), (14, .int .i64 v.1)], [], [(1000, .cells [.sl 0 d]), (15008, .cells [.row 0 7777 0 v.2.1]), (7777, .row 0 v.2.2)]⟩, I := fun v => v.1 ≤ l.length ∧ (d.length ≤ 10000 ∧ l.length ≤ 64) ∧ v.2.2.length = v.2.1 ∧ v.2.1 = d.length ∧ ok0 d l w t ∧ Apart l l.length ∧ v.2.2 = doO d l w t, μ := fun v => l.length - v.1, boxes := [(1001200, 7777, 0)] }
  | _ => none
end Go.Proofs.Ytiekaipompepdaa

