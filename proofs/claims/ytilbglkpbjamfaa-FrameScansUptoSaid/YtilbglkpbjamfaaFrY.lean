import Derived.Test.YtilbglkpbjamfaaFrV
import Derived.Test.YtilbglkpbjamfaaFrAl
namespace Go.Proofs.Ytilbglkpbjamfaa
open Go Go.Eng Go.Rw Go.Fr Go.Proofs
set_option linter.unusedVariables false
def allS : Eng.Spec := { ro := false, own := [], run := fun args _ k => match args with
  | [.sl 0 b] => b.length ≤ 2200000 ∧ ∀ (ys : List Msg) (m : Nat) (a : Int), ys = scan b → ys.length = m → a = lastE b → (-1 ≤ a ∧ a < b.length) → k (.tup [.row 8 0 0 m, .int .i64 a]) [] [.row 8 ys]
  | _ => False }
def allB : Eng.Spec := { ro := false, own := [false], run := fun args B k => match args, B with
  | [.row 0 0 0 q], [.row 0 b] => (q = b.length ∧ b.length ≤ 2200000) ∧ ∀ (ys : List Msg) (m : Nat) (a : Int), ys = scan b → ys.length = m → a = lastE b → (-1 ≤ a ∧ a < b.length) → k (.tup [.row 8 1 0 m, .int .i64 a]) [some (.row 0 b)] [.row 8 ys]
  | _, _ => False }
def rallLoops (b : List UInt8) : List Nat → Nat → Option LoopAnn := fun _ r => match r with
  | 4 => some { V := Nat × Int × List Msg, st := fun v => ⟨mk 55 [(0, .sl 0 b), (4, .row 8 7777 0 v.2.2.length), (5, .int .i64 v.2.1), (6, .int .i64 v.1)], [], [(7777, .row 8 v.2.2)]⟩, I := fun v => v.1 ≤ b.length ∧ b.length ≤ 2200000 ∧ (-1 ≤ v.2.1 ∧ v.2.1 < v.1) ∧ v.2.2.length ≤ v.1 ∧ AIn b v.1 v.2.2 v.2.1, μ := fun v => b.length - v.1, boxes := [(4, 7777, 8)] }
  | _ => none
def rallBLoops (q : Nat) (b : List UInt8) : List Nat → Nat → Option LoopAnn := fun _ r => match r with
  | 4 => some { V := Nat × Int × List Msg, st := fun v => ⟨mk 55 [(0, .row 0 0 0 q), (4, .row 8 7777 0 v.2.2.length), (5, .int .i64 v.2.1), (6, .int .i64 v.1)], [], [(0, .row 0 b), (7777, .row 8 v.2.2)]⟩, I := fun v => v.1 ≤ b.length ∧ (q = b.length ∧ b.length ≤ 2200000) ∧ (-1 ≤ v.2.1 ∧ v.2.1 < v.1) ∧ v.2.2.length ≤ v.1 ∧ AIn b v.1 v.2.2 v.2.1, μ := fun v => b.length - v.1, boxes := [(4, 7777, 8)] }
  | _ => none
def feedB : Eng.Spec := { ro := false, own := [false, false, true], run := fun args B k => match args, B with
  | [.ptr 0 0, .row 0 1 0 q], [.cells [.row 0 902 0 n, .bool bg, .bool lg, .bool true], .row 0 b, .row 0 us] => ((n ≤ us.length ∧ n ≤ 1043) ∧ q = b.length) ∧ (16384 < b.length → k (.tup [.nilsl, .int .i64 3]) [some (.cells [.row 0 3 0 n, .bool bg, .bool lg, .bool true]), some (.row 0 b), none] [.row 0 us]) ∧ (b.length ≤ 16384 → ∀ (b1 l1 : Bool) (us1 : List UInt8) (n1 m : Nat) (ys : List Msg), (b1, l1, us1.take n1) = rfold (bg, lg, us.take n) b → ys = msgs (bg, lg, us.take n) b → ys.length = m → (n1 ≤ us1.length ∧ n1 ≤ 1043) → k (.tup [.row 8 3 0 m, .int .i64 0]) [some (.cells [.row 0 4 0 n1, .bool b1, .bool l1, .bool true]), some (.row 0 b), none] [.row 8 ys, .row 0 us1])
  | _, _ => False }
def feedBLoops (q n : Nat) (bg lg : Bool) (b us : List UInt8) : List Nat → Nat → Option LoopAnn := fun _ r => match r with
  | 7 => some { V := Nat × Bool × Bool × List UInt8 × Nat × List Msg, st := fun v => ⟨mk 99 [(0, .ptr 0 0), (6, .row 8 7777 0 v.2.2.2.2.2.length), (23, .row 0 1 0 q), (24, .int .i64 b.length), (25, .int .i64 v.1)], [], [(0, .cells [.row 0 902 0 v.2.2.2.2.1, .bool v.2.1, .bool v.2.2.1, .bool true]), (1, .row 0 b), (902, .row 0 v.2.2.2.1), (7777, .row 8 v.2.2.2.2.2)]⟩, I := fun v => v.1 ≤ b.length ∧ (q = b.length ∧ b.length ≤ 16384) ∧ (v.2.2.2.2.1 ≤ v.2.2.2.1.length ∧ v.2.2.2.2.1 ≤ 1043) ∧ FIn (bg) (lg) (us.take n) b v.1 v.2.1 v.2.2.1 (v.2.2.2.1.take v.2.2.2.2.1) v.2.2.2.2.2 ∧ v.2.2.2.2.2.length ≤ v.1, μ := fun v => b.length - v.1, boxes := [(6, 7777, 8)] }
  | _ => none
theorem msg_ext {a b : Msg} (h1 : a.kind = b.kind) (h2 : a.seq = b.seq) (h3 : a.body = b.body) : a = b := by cases a; cases b; simp_all
theorem scan_up {f : FuncId} (hf : Holds Try.prog f scanS) : Holds Try.prog f scanD := by
  refine (hf.nil).nlAt 8 0 rfl rfl rfl fun args k h => ?_
  show scanS.run (args.map nilB) [] _
  unfold scanD at h
  dsimp only at h
  generalize args.map nilB = l at h
  split at h
  · rename_i b
    refine ⟨fun hb => ?_, fun hb ys m a hy hm ha h1 => ?_⟩
    · exact h 3 0 [] 0 (by unfold sE; rw [if_pos hb]) (by unfold sA; rw [if_pos hb]) (by unfold sO; rw [if_pos hb]) rfl
    · exact h 0 a ys m (by unfold sE; rw [if_neg (by omega)]) (by unfold sA; rw [if_neg (by omega)]; exact ha) (by unfold sO; rw [if_neg (by omega)]; exact hy) hm
  · exact h.elim
def rsameS : Eng.Spec := { ro := true, own := [], run := fun args _ k => match args with
  | [.sl 8 l, .sl 8 m] => ∀ r : Bool, (r = true ↔ l = m) → k (.bool r) [] []
  | _ => False }
structure eqU (l m : List Msg) (i : Nat) : Prop where
  e : l.take i = m.take i
theorem equ_step {l m : List Msg} {i j : Nat} (h : eqU l m i) (hi : i < l.length) (hm : i < m.length) (hj : j = i + 1) (he : l.getD i (dflt 8) = m.getD i (dflt 8)) : eqU l m j := by
  subst hj
  exact ⟨by rw [take_step l (dflt 8) hi, take_step m (dflt 8) hm, h.e, he]⟩
def rsameLoops (l m : List Msg) : List Nat → Nat → Option LoopAnn := fun _ r => match r with
  | 4 => some { V := Nat, st := fun v => ⟨mk 27 [(0, .sl 8 l), (1, .sl 8 m), (5, .int .i64 v)], [], []⟩, I := fun v => v ≤ l.length ∧ l.length = m.length ∧ eqU l m v, μ := fun v => l.length - v }
  | _ => none
def V1 : Tab := [(17, bareS), (15, openS)]
theorem V1_ok : TabOk Try.prog V1 := ⟨rbare_ok, ropen_ok, trivial⟩
def V2 : Tab := [(26, allS)]
def V3 : Tab := [(19, msgSameS)]
theorem V3_ok : TabOk Try.prog V3 := ⟨rmsame_ok, trivial⟩
def V4 : Tab := [(24, new0S), (25, feedB), (21, scanD), (22, scanD), (26, allB), (23, rsameS)]
def scansLoops (b : List UInt8) (p : List (List UInt8)) : List Nat → Nat → Option LoopAnn := fun s r => match r with
  | 3 => some { V := Nat × Int, st := fun v => ⟨mk 164 [(0, .sl 0 b), (1, .sl 6 p), (5, .int .i64 v.2), (6, .int .i64 v.1)], [], []⟩, I := fun v => v.1 ≤ p.length ∧ p.length ≤ 1048576 ∧ (0 ≤ v.2 ∧ v.2 ≤ 30000 * v.1), μ := fun v => p.length - v.1 }
  | 17 => some { V := Nat × List UInt8 × Nat × Nat × Bool × Bool × List UInt8 × Nat, st := fun v => ⟨mk 164 [(1, .sl 6 p), (14, .ptr 14000 0), (15, .row 0 7777 0 v.2.2.1), (16, .int .i64 v.2.2.2.1), (17, .int .i64 v.1)], [], [(14000, .cells [.row 0 7778 0 v.2.2.2.2.2.2.2, .bool v.2.2.2.2.1, .bool v.2.2.2.2.2.1, .bool true]), (7778, .row 0 v.2.2.2.2.2.2.1), (7777, .row 0 v.2.1)]⟩, I := fun v => v.1 ≤ p.length ∧ (p.length ≤ 1048576 ∧ p.flatten.length ≤ 1048576) ∧ v.2.2.1 = v.2.1.length ∧ v.2.2.2.1 ≤ v.2.1.length ∧ (v.2.2.2.2.2.2.2 ≤ v.2.2.2.2.2.2.1.length ∧ v.2.2.2.2.2.2.2 ≤ 1043) ∧ SIn p v.1 v.2.1 v.2.2.2.1 v.2.2.2.2.1 v.2.2.2.2.2.1 (v.2.2.2.2.2.2.1.take v.2.2.2.2.2.2.2), μ := fun v => p.length - v.1, boxes := [(15, 7777, 0), (1001400, 7778, 0)], key := fun v => v.1 }
  | 30 => some { V := Nat × List UInt8 × Nat × Nat × Bool × Bool × List UInt8 × Nat × List UInt8 × Nat, st := fun v => ⟨mk 164 [(1, .sl 6 p), (14, .ptr 14000 0), (15, .row 0 7777 0 v.2.2.1), (16, .int .i64 v.2.2.2.1), (17, .int .i64 (s.headD 0 : Nat)), (18, .row 0 7779 0 v.2.2.2.2.2.2.2.2.2), (23, .int .i64 v.1)], [], [(14000, .cells [.row 0 7778 0 v.2.2.2.2.2.2.2.1, .bool v.2.2.2.2.1, .bool v.2.2.2.2.2.1, .bool true]), (7778, .row 0 v.2.2.2.2.2.2.1), (7777, .row 0 v.2.1), (7779, .row 0 v.2.2.2.2.2.2.2.2.1)]⟩, I := fun v => v.1 ≤ v.2.2.2.2.2.2.2.2.2 ∧ v.2.2.2.2.2.2.2.2.2 = v.2.2.2.2.2.2.2.2.1.length ∧ v.2.2.1 = v.2.1.length ∧ v.2.2.2.1 ≤ v.2.1.length ∧ (v.2.2.2.2.2.2.2.1 ≤ v.2.2.2.2.2.2.1.length ∧ v.2.2.2.2.2.2.2.1 ≤ 1043) ∧ SIn p (s.headD 0 + 1) v.2.1 v.2.2.2.1 v.2.2.2.2.1 v.2.2.2.2.2.1 (v.2.2.2.2.2.2.1.take v.2.2.2.2.2.2.2.1), μ := fun v => v.2.2.2.2.2.2.2.2.2 - v.1, boxes := [(15, 7777, 0), (1001400, 7778, 0), (18, 7779, 0)] }
  | _ => none
def lawScans : Eng.Spec := { ro := true, own := [], run := fun args _ k => match args with
  | [.sl 0 b, .sl 6 p] => b.length ≤ 1048576 ∧ p.length ≤ 1048576 ∧ p.flatten.length ≤ 1048576 ∧ k (.bool true) [] []
  | _ => False }
end Go.Proofs.Ytilbglkpbjamfaa

