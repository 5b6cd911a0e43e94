import Derived.Test.YtcdflgfhkohldaaStX
import Derived.Test.YtcdflgfhkohldaaStZ
namespace Go.Proofs.Ytcdflgfhkohldaa
open Go Go.Eng Go.Rw Go.Lk Go.Proofs
open Go.Bk hiding take_step drop_step set_mid
open Go.St hiding take_step
set_option linter.unusedVariables false
def doT : Eng.Spec := { ro := false, own := [], run := fun args _ k => match args with
  | [.agg [.sl 0 d], .sl 9 l, .int .i64 w, .int .i64 t] => (d.length ≤ 1000000 ∧ l.length ≤ 1000000) ∧ ∀ (e : Int) (ys : List UInt8), e = doE d l w t → ys = doO d l w t → ys.length ≤ d.length → k (.tup [.agg [.sl 0 ys], .int .i64 e]) [] []
  | _ => False }
theorem do_upT {f : FuncId} (hf : Holds Try.prog f doS) : Holds Try.prog f doT := by
  have h2 := Holds.fzA (t := { ro := false, own := [], run := fun args B k => doS.run args B (fzA k) }) hf rfl rfl rfl fun _ _ h => h
  refine h2.up (nilAT1 0) (fun _ _ _ _ _ h => nilAT1_rep h) rfl rfl rfl fun args k h => ?_
  show doS.run args [] _
  unfold doT at h
  dsimp only at h
  split at h
  · refine ⟨h.1, fun e he hz => ?_, fun hz ys n hy hn => ?_⟩
    · show k (.tup [.agg [.sl 0 []], .int .i64 e]) [] []
      exact h.2 e [] he (by unfold doO; rw [if_neg (by rw [← he]; exact hz)]) (by simp)
    · show k (.tup [.agg [.sl 0 ((ys.drop 0).take n)], .int .i64 0]) [] []
      rw [List.drop_zero, ← hn, List.take_length]
      exact h.2 0 ys hz.symm hy (by rw [hy]; exact doO_len _ _ _ _)
  · exact h.elim
def doneT : Eng.Spec := { ro := false, own := [], run := fun args _ k => match args with
  | [.agg [.sl 0 d], .int .u8 m, .sl 10 l, .int .i64 w, .int .i64 t] => ((0 ≤ m ∧ m ≤ 255) ∧ d.length ≤ 1000000 ∧ (-9223372036854775808 ≤ w ∧ w ≤ 9223372036854775807)) ∧ ∀ (x : List UInt8) (b : Bool), DnR d m l w t x b → x.length ≤ d.length → k (.tup [.agg [.sl 0 x], .bool b]) [] []
  | _ => False }
def sameDS : Eng.Spec := { ro := true, own := [], run := fun args _ k => match args with
  | [.agg [.sl 0 a], .agg [.sl 0 b]] => ∀ r : Bool, (r = true ↔ SameD a b) → k (.bool r) [] []
  | _ => False }
def oneL : Eng.Spec := { ro := false, own := [], run := fun args _ k => match args with
  | [] => ∀ l : List Plan, l = one1 → k (.row 10 0 0 1) [] [.row 10 l]
  | _ => False }
def oneT : Eng.Spec := { ro := false, own := [], run := fun args _ k => match args with
  | [] => ∀ l : List Plan, l = one1 → k (.sl 10 l) [] []
  | _ => False }
theorem one_up {f : FuncId} (hf : Holds Try.prog f oneL) : Holds Try.prog f oneT := by
  have h2 := Holds.fzA (t := { ro := false, own := [], run := fun args B k => oneL.run args B (fzA k) }) hf rfl rfl rfl fun _ _ h => h
  refine h2.up id (fun _ _ _ _ _ h => h) rfl rfl rfl fun args k h => ?_
  show oneL.run args [] _
  unfold oneT at h
  dsimp only at h
  split at h
  · intro l hl
    show k (.sl 10 ((l.drop 0).take 1)) [] []
    have : (l.drop 0).take 1 = l := by rw [hl]; rfl
    rw [this]
    exact h l hl
  · exact h.elim
def aliveS : Eng.Spec := { ro := true, own := [], run := fun args _ k => match args with
  | [] => k (.bool true) [] []
  | _ => False }
def lawDone : Eng.Spec := { ro := true, own := [], run := fun args _ k => match args with
  | [.agg [.sl 0 d], .int .u8 m, .sl 10 l] => inK .u8 m ∧ k (.bool true) [] []
  | _ => False }
def lawTornS : Eng.Spec := { ro := true, own := [], run := fun args _ k => match args with
  | [.agg [.sl 0 d], .int .u8 m, .sl 10 l, .int .i64 w, .int .i64 t] => inK .u8 m ∧ inK .i64 w ∧ inK .i64 t ∧ k (.bool true) [] []
  | _ => False }
def lawTwice : Eng.Spec := { ro := true, own := [], run := fun args _ k => match args with
  | [.agg [.sl 0 d], .agg [.int .i64 ga, .int .u8 ma, .sl 10 la], .agg [.int .i64 gb, .int .u8 mb, .sl 10 lb], .int .i64 w, .int .i64 t, .int .i64 w2, .int .i64 t2] => inK .i64 ga ∧ inK .u8 ma ∧ inK .i64 gb ∧ inK .u8 mb ∧ inK .i64 w ∧ inK .i64 t ∧ inK .i64 w2 ∧ inK .i64 t2 ∧ k (.bool true) [] []
  | _ => False }
def H5 : Tab := [(19, putzT), (29, doT), (17, rReadT), (25, samePlS)]
theorem H5_ok : TabOk Try.prog H5 := ⟨putzT_ok, do_upT bdo_ok, zReadT_ok, samePl_ok, trivial⟩
def H6 : Tab := [(15, formatT), (31, oneT), (28, doneT), (17, rReadT), (25, samePlS)]
def H8 : Tab := [(26, aliveS), (27, muchS), (28, doneT), (30, sameDS), (17, rReadT), (19, putzT), (21, rSlotT), (29, doT), (25, samePlS)]
end Go.Proofs.Ytcdflgfhkohldaa

