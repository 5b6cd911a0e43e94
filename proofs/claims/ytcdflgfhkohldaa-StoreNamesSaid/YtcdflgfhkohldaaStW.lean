import Derived.Test.YtcdflgfhkohldaaStV
namespace Go.Proofs.Ytcdflgfhkohldaa
open Go Go.Eng Go.Rw Go.Lk Go.Proofs
open Go.Bk hiding take_step drop_step set_mid
open Go.St hiding take_step
set_option linter.unusedVariables false
def formatS : Eng.Spec := { ro := true, own := [], run := fun args _ k => match args with
  | [.int .i64 n] => (∀ e : Int, e = fmtE n → e ≠ 0 → (0 ≤ e ∧ e ≤ 190) → k (.tup [.agg [.nilsl], .int .i64 e]) [] []) ∧ (fmtE n = 0 → ∀ (ys : List UInt8) (q : Nat), ys = fmtO n → ys.length = q → k (.tup [.agg [.row 0 0 0 q], .int .i64 0]) [] [.row 0 ys])
  | _ => False }
def formatT : Eng.Spec := { ro := false, own := [], run := fun args _ k => match args with
  | [.int .i64 n] => ∀ (e : Int) (ys : List UInt8), e = fmtE n → ys = fmtO n → (0 ≤ e ∧ e ≤ 190) → k (.tup [.agg [.sl 0 ys], .int .i64 e]) [] []
  | _ => False }
def nilA1 (c : Nat) : AV → AV
  | .agg [.nilsl] => .agg [.sl c []]
  | x => x
def nilAT1 (c : Nat) : AV → AV
  | .tup [a, b] => .tup [nilA1 c a, nilA1 c b]
  | x => x
theorem nilA1_rep {c : Nat} {w : World} {im : Nat → Prop} {ρ : Ids} {v : Value} {x : AV} (h : Rep w im ρ v x) : Rep w im ρ v (nilA1 c x) := by
  unfold nilA1
  split
  · obtain ⟨vs, rfl, h1, h2, h3⟩ := h.inv_agg
    refine .agg (by simpa using h1) h2 fun j v hj => ?_
    have := h3 j v hj
    match j with
    | 0 =>
      have t : Rep w im ρ v .nilsl := this
      rw [t.inv_nilsl]
      exact .sl0
    | j + 1 => exact this
  · exact h
theorem nilAT1_rep {c : Nat} {w : World} {im : Nat → Prop} {ρ : Ids} {v : Value} {x : AV} (h : Rep w im ρ v x) : Rep w im ρ v (nilAT1 c x) := by
  unfold nilAT1
  split
  · obtain ⟨vs, rfl, h1, h3⟩ := h.inv_tup
    refine .tup (by simpa using h1) fun j v hj => ?_
    have := h3 j v hj
    match j with
    | 0 => exact nilA1_rep this
    | 1 => exact nilA1_rep this
    | j + 2 => exact this
  · exact h
theorem format_up {f : FuncId} (hf : Holds Try.prog f formatS) : Holds Try.prog f formatT := by
  have h2 := Holds.fzA (t := { ro := false, own := [], run := fun args B k => formatS.run args B (fzA k) }) hf rfl rfl rfl fun _ _ h => h
  refine h2.up (nilAT1 0) (fun _ _ _ _ _ h => nilAT1_rep h) rfl rfl rfl fun args k h => ?_
  show formatS.run args [] _
  unfold formatT at h
  dsimp only at h
  split at h
  · refine ⟨fun e he hz hb => ?_, fun hz ys q hy hq => ?_⟩
    · show k (.tup [.agg [.sl 0 []], .int .i64 e]) [] []
      exact h e [] he (by unfold fmtO; rw [if_neg (by rw [← he]; exact hz)]) hb
    · show k (.tup [.agg [.sl 0 ((ys.drop 0).take q)], .int .i64 0]) [] []
      rw [List.drop_zero, ← hq, List.take_length]
      exact h 0 ys hz.symm hy (by omega)
  · exact h.elim
def putzS : Eng.Spec := { ro := false, own := [], run := fun args _ k => match args with
  | [.agg [.sl 0 d], .int .u8 m, .sl 10 l] => (0 ≤ m ∧ m ≤ 255) ∧ (∀ e : Int, PtR d m l e [] → e ≠ 0 → k (.tup [.nilsl, .int .i64 e]) [] []) ∧ (∀ (ps : List Put) (n : Nat), PtR d m l 0 ps → ps.length = n → k (.tup [.row 9 0 0 n, .int .i64 0]) [] [.row 9 ps])
  | _ => False }
def putzT : Eng.Spec := { ro := false, own := [], run := fun args _ k => match args with
  | [.agg [.sl 0 d], .int .u8 m, .sl 10 l] => (0 ≤ m ∧ m ≤ 255) ∧ ∀ (e : Int) (ps : List Put), PtR d m l e ps → (0 ≤ e ∧ e ≤ 190) → ps.length ≤ 32 → k (.tup [.sl 9 ps, .int .i64 e]) [] []
  | _ => False }
theorem putz_up {f : FuncId} (hf : Holds Try.prog f putzS) : Holds Try.prog f putzT := by
  have h2 := Holds.fzA (t := { ro := false, own := [], run := fun args B k => putzS.run args B (fzA k) }) hf rfl rfl rfl fun _ _ h => h
  refine h2.up (tupC 0 9) (fun _ _ _ _ _ h => tupC_rep h) rfl rfl rfl fun args k h => ?_
  show putzS.run args [] _
  unfold putzT at h
  dsimp only at h
  split at h
  · refine ⟨h.1, fun e hp hz => ?_, fun ps n hp hn => ?_⟩
    · show k (.tup [.sl 9 [], .int .i64 e]) [] []
      exact h.2 e [] hp hp.in.1 (by simp)
    · show k (.tup [.sl 9 ((ps.drop 0).take n), .int .i64 0]) [] []
      rw [List.drop_zero, ← hn, List.take_length]
      exact h.2 0 ps hp (by omega) hp.in.2.1
  · exact h.elim
def putzCuts (d : List UInt8) (m : Int) (l : List Plan) : List Nat → Nat → Option CutAnn := fun _ r => match r with
  | 17 => some { V := Int × Int, st := fun v => ⟨mk 97 [(10, .ptr 7003 0), (11, .int .i64 (half d : Int)), (15, .int .i64 v.2)], [], [(7003, .cells [.int .i64 v.1, .int .u8 m, .sl 10 l])]⟩, I := fun v => (1 ≤ half d ∧ half d ≤ 32) ∧ (0 ≤ m ∧ m ≤ 3) ∧ (1 ≤ v.1 ∧ v.1 ≤ 4611686018427387936) ∧ (0 ≤ v.2 ∧ v.2 ≤ 1) ∧ PQ d m l v.1 v.2 }
  | _ => none
def putzLoops (d : List UInt8) (m : Int) (l : List Plan) : List Nat → Nat → Option LoopAnn := fun _ r => match r with
  | 22 => some { V := Nat × List Put × List (List UInt8) × Int, st := fun v => ⟨mk 97 [(9, .int .i64 0), (11, .int .i64 (half d : Int)), (15, .int .i64 v.2.2.2), (18, .row 9 7777 0 v.1), (77, .sl 6 v.2.2.1), (78, .int .i64 v.2.2.1.length), (79, .int .i64 v.1)], [], [(7777, .row 9 v.2.1)]⟩, I := fun v => v.1 ≤ half d ∧ (1 ≤ half d ∧ half d ≤ 32) ∧ v.2.2.1.length = half d ∧ (0 ≤ v.2.2.2 ∧ v.2.2.2 ≤ 1) ∧ (0 ≤ slo d v.2.2.2 ∧ slo d v.2.2.2 ≤ 32) ∧ v.2.1.length = v.1 ∧ BQ d m l v.2.2.2 v.2.2.1 ∧ PuI (slo d v.2.2.2) v.2.2.1 v.1 v.2.1, μ := fun v => half d - v.1, boxes := [(18, 7777, 9)] }
  | _ => none
def rputzCuts (d : List UInt8) (m : Int) (l : List Plan) : List Nat → Nat → Option CutAnn := fun _ r => match r with
  | 15 => some { V := Int × Int, st := fun v => ⟨mk 83 [(1, .int .u8 m), (2, .sl 10 l), (9, .int .i64 (half d : Int)), (12, .int .i64 v.2), (13, .int .i64 v.1)], [], []⟩, I := fun v => (1 ≤ half d ∧ half d ≤ 32) ∧ (0 ≤ m ∧ m ≤ 3) ∧ (1 ≤ v.1 ∧ v.1 ≤ 4611686018427387936) ∧ (0 ≤ v.2 ∧ v.2 ≤ 1) ∧ PQ d m l v.1 v.2 }
  | _ => none
def rputzLoops (d : List UInt8) (m : Int) (l : List Plan) : List Nat → Nat → Option LoopAnn := fun _ r => match r with
  | 20 => some { V := Nat × List Put × List (List UInt8) × Int, st := fun v => ⟨mk 83 [(9, .int .i64 (half d : Int)), (12, .int .i64 v.2.2.2), (14, .sl 6 v.2.2.1), (16, .row 9 7777 0 v.1), (17, .int .i64 v.1)], [], [(7777, .row 9 v.2.1)]⟩, I := fun v => v.1 ≤ half d ∧ (1 ≤ half d ∧ half d ≤ 32) ∧ v.2.2.1.length = half d ∧ (0 ≤ v.2.2.2 ∧ v.2.2.2 ≤ 1) ∧ (0 ≤ slo d v.2.2.2 ∧ slo d v.2.2.2 ≤ 32) ∧ v.2.1.length = v.1 ∧ BQ d m l v.2.2.2 v.2.2.1 ∧ PuI (slo d v.2.2.2) v.2.2.1 v.1 v.2.1, μ := fun v => half d - v.1, boxes := [(16, 7777, 9)] }
  | _ => none
def samePS : Eng.Spec := { ro := true, own := [], run := fun args _ k => match args with
  | [.agg [.int .i64 c, .int .i64 o, .sl 1 s], .agg [.int .i64 c', .int .i64 o', .sl 1 s']] => ∀ r : Bool, (r = true ↔ c = c' ∧ o = o' ∧ s = s') → k (.bool r) [] []
  | _ => False }
def samePlS : Eng.Spec := { ro := true, own := [], run := fun args _ k => match args with
  | [.sl 10 a, .sl 10 b] => ∀ r : Bool, (r = true ↔ a = b) → k (.bool r) [] []
  | _ => False }
def samePlLoops (a b : List Plan) : List Nat → Nat → Option LoopAnn := fun _ r => match r with
  | 4 => some { V := Nat, st := fun v => ⟨mk 27 [(0, .sl 10 a), (1, .sl 10 b), (5, .int .i64 v)], [], []⟩, I := fun v => v ≤ a.length ∧ a.length = b.length ∧ eqP a b v, μ := fun v => a.length - v }
  | _ => none
def samePuS : Eng.Spec := { ro := true, own := [], run := fun args _ k => match args with
  | [.sl 9 a, .sl 9 b] => ∀ r : Bool, (r = true ↔ a = b) → k (.bool r) [] []
  | _ => False }
def samePuLoops (a b : List Put) : List Nat → Nat → Option LoopAnn := fun _ r => match r with
  | 4 => some { V := Nat, st := fun v => ⟨mk 43 [(0, .sl 9 a), (1, .sl 9 b), (5, .int .i64 v)], [], []⟩, I := fun v => v ≤ a.length ∧ a.length = b.length ∧ eqP a b v, μ := fun v => a.length - v }
  | _ => none
def sameKS : Eng.Spec := { ro := true, own := [], run := fun args _ k => match args with
  | [.agg [.int .i64 g, .int .u8 m, .sl 10 ps], .agg [.int .i64 g', .int .u8 m', .sl 10 ps']] => ∀ r : Bool, (r = true ↔ g = g' ∧ m = m' ∧ ps = ps') → k (.bool r) [] []
  | _ => False }
def greatS : Eng.Spec := { ro := true, own := [], run := fun args _ k => match args with
  | [.agg [.int .i64 0, .nilsl, .nilsl, .nilsl, .nilsl, .nilsl, .int .i64 0, .int .i64 0, .int .i64 0, .int .i64 0, .int .i64 0, .sl 10 l]] => ∀ r : Bool, k (.bool r) [] []
  | _ => False }
def greatLoops (l : List Plan) : List Nat → Nat → Option LoopAnn := fun _ r => match r with
  | 4 => some { V := Nat, st := fun v => ⟨mk 68 [(1, .ptr 1000 0), (3, .int .i64 0)], [], [(1000, .cells [.int .i64 0, .nilsl, .nilsl, .nilsl, .nilsl, .nilsl, .int .i64 0, .int .i64 0, .int .i64 0, .int .i64 0, .int .i64 0, .sl 10 l])]⟩, I := fun v => l.length ≤ 40 ∧ v = 0, μ := fun v => v }
  | 9 => some { V := Nat, st := fun v => ⟨mk 68 [(1, .ptr 1000 0), (4, .int .i64 v)], [], [(1000, .cells [.int .i64 0, .nilsl, .nilsl, .nilsl, .nilsl, .nilsl, .int .i64 0, .int .i64 0, .int .i64 0, .int .i64 0, .int .i64 0, .sl 10 l])]⟩, I := fun v => v ≤ l.length ∧ l.length ≤ 40, μ := fun v => l.length - v }
  | _ => none
def largeS : Eng.Spec := { ro := true, own := [], run := fun args _ k => match args with
  | [.sl 10 l] => ∀ r : Bool, k (.bool r) [] []
  | _ => False }
def muchS : Eng.Spec := { ro := true, own := [], run := fun args _ k => match args with
  | [.agg [.sl 0 d], .sl 10 l] => ∀ r : Bool, (r = false → d.length ≤ 5000) → k (.bool r) [] []
  | _ => False }
def G1 : Tab := [(43, slotsS), (44, countsS), (47, nextzS), (11, blocksT), (41, newS)]
theorem G1_ok : TabOk Try.prog G1 := ⟨slots_ok, counts_ok, nextz_ok, blocksT_ok, new_ok, trivial⟩
def G3a : Tab := [(74, sameIS)]
theorem G3a_ok : TabOk Try.prog G3a := ⟨samei_ok, trivial⟩
def G3b : Tab := [(52, samePS)]
def G3c : Tab := [(25, samePlS)]
def G3d : Tab := [(32, greatS)]
def G3e : Tab := [(10, largeS)]
end Go.Proofs.Ytcdflgfhkohldaa

