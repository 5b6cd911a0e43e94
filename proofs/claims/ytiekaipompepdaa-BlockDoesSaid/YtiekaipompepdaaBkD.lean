import Derived.Test.YtiekaipompepdaaBkC
namespace Go.Proofs.Ytiekaipompepdaa
open Go Go.Eng Go.Bk Go.Proofs
set_option linter.unusedVariables false
def N1 : Tab := [(16, checkS), (29, equalS), (24, rmanyS), (17, twinS)]
theorem N1_ok : TabOk Try.prog N1 := ⟨check_ok, equal_ok, rmany_ok, twin_ok, trivial⟩
def N2 : Tab := [(14, manyS)]
def rputS : Eng.Spec := { ro := true, own := [], run := fun args _ k => match args with
  | [.agg [.sl 0 d], .int .i64 n, .sl 0 b, .int .i64 m] => (dOk d.length ∧ (0 ≤ n ∧ 64 * n + 64 ≤ d.length) ∧ b.length = 64 ∧ 0 ≤ m ∧ m ≤ 64) ∧ ∀ (ys : List UInt8) (q : Nat), ys = wr d n b m.toNat → ys.length = q → k (.agg [.row 0 0 0 q]) [] [.row 0 ys]
  | _ => False }
def rputLoops (d : List UInt8) (n : Int) (b : List UInt8) (m : Int) : List Nat → Nat → Option LoopAnn := fun _ r => match r with
  | 3 => some { V := Nat × List UInt8, st := fun v => ⟨mk 30 [(1, .int .i64 n), (2, .sl 0 b), (3, .int .i64 m), (8, .ptr 1001 0), (9, .ptr 2002 0), (10, .int .i64 v.1)], [], [(1001, .cells [.nilsl]), (2002, .cells [.row 0 7777 0 d.length]), (7777, .row 0 v.2)]⟩, I := fun v => (v.1 : Int) ≤ m ∧ v.2.length = d.length ∧ v.2 = wr d n b v.1, μ := fun v => (m - v.1).toNat, boxes := [(1000900, 7777, 0)] }
  | _ => none
def rdD : Eng.Spec := { ro := true, own := [], run := fun args _ k => match args with
  | [.agg [.sl 0 d], .int .i64 n] => d.length ≤ 1000000 ∧ ∀ (e : Int) (ys : List UInt8) (q : Nat), e = askE d n → ys = rdO d n → ys.length = q → k (.tup [.row 0 0 0 q, .int .i64 e]) [] [.row 0 ys]
  | _ => False }
def rdS : Eng.Spec := { ro := true, own := [], run := fun args _ k => match args with
  | [.agg [.sl 0 d], .int .i64 n] => d.length ≤ 1000000 ∧ (∀ e : Int, e = askE d n → e ≠ 0 → k (.tup [.nilsl, .int .i64 e]) [] []) ∧ (askE d n = 0 → ∀ (ys : List UInt8) (q : Nat), ys = rdO d n → ys.length = q → k (.tup [.row 0 0 0 q, .int .i64 0]) [] [.row 0 ys])
  | _ => False }
theorem rd_up {f : FuncId} (hf : Holds Try.prog f rdS) : Holds Try.prog f rdD := hf.nlAt 0 0 rfl rfl rfl fun args k h => by
  unfold rdD at h
  dsimp only at h
  split at h
  · refine ⟨h.1, fun e he hz => h.2 e [] 0 he (by unfold rdO; rw [if_neg (by rw [← he]; exact hz)]) rfl, fun hz ys n hy hn => h.2 0 ys n hz.symm hy hn⟩
  · exact h.elim
def N3 : Tab := [(26, askedS), (27, cloneS), (28, atS), (22, checkS), (24, rmanyS), (30, blockS)]
theorem splice_step {d b : List UInt8} {n : Int} {i : Nat} (h : 64 * n.toNat + i < d.length) (hb : i < b.length) : (wr d n b i).set (64 * n.toNat + i) (b.getD i 0) = wr d n b (i + 1) := by
  apply List.ext_getElem?
  intro j
  rw [List.getElem?_set, wr_get (by omega) (by omega), wr_get (by omega) (by omega), wr_len (by omega) (by omega)]
  have eb : b[i]? = some (b.getD i 0) := by rw [List.getD_eq_getElem?_getD, List.getElem?_eq_getElem hb]; rfl
  by_cases c : 64 * n.toNat + i = j
  · subst c
    rw [if_pos rfl, if_pos (by omega), if_pos (by omega), show 64 * n.toNat + i - 64 * n.toNat = i by omega, eb]
  · rw [if_neg c]
    by_cases c2 : 64 * n.toNat ≤ j ∧ j < 64 * n.toNat + i
    · rw [if_pos c2, if_pos (by omega)]
    · rw [if_neg c2, if_neg (by omega)]
end Go.Proofs.Ytiekaipompepdaa

