import Derived.Test.YtcdflgfhkohldaaStO
import Derived.Test.YtcdflgfhkohldaaStP
namespace Go.Proofs.Ytcdflgfhkohldaa
open Go Go.Eng Go.Rw Go.Lk Go.Proofs
open Go.Bk hiding take_step drop_step set_mid
open Go.St hiding take_step
set_option linter.unusedVariables false
def keptS : Eng.Spec := { ro := false, own := [], run := fun args _ k => match args with
  | [.sl 6 bl] => B64 bl ∧ (∀ (g m : Int) (ps : List Plan), KF bl true g m ps → k (.tup [.agg [.int .i64 g, .int .u8 m, .sl 10 ps], .bool true]) [] []) ∧ (KF bl false 0 0 [] → k (.tup [.agg [.int .i64 0, .int .u8 0, .nilsl], .bool false]) [] [])
  | _ => False }
def keptT : Eng.Spec := { ro := false, own := [], run := fun args _ k => match args with
  | [.sl 6 bl] => B64 bl ∧ ∀ (h : Bool) (g m : Int) (ps : List Plan), KF bl h g m ps → (0 ≤ g ∧ g ≤ 4611686018427387903) → (0 ≤ m ∧ m ≤ 3) → ps.length ≤ 8 → k (.tup [.agg [.int .i64 g, .int .u8 m, .sl 10 ps], .bool h]) [] []
  | _ => False }
def nilA (c : Nat) : AV → AV
  | .agg [a, b, .nilsl] => .agg [a, b, .sl c []]
  | x => x
def nilAT (c : Nat) : AV → AV
  | .tup [a, b] => .tup [nilA c a, nilA c b]
  | x => x
theorem nilA_rep {c : Nat} {w : World} {im : Nat → Prop} {ρ : Ids} {v : Value} {x : AV} (h : Rep w im ρ v x) : Rep w im ρ v (nilA c x) := by
  unfold nilA
  split
  · obtain ⟨vs, rfl, h1, h2, h3⟩ := h.inv_agg
    refine .agg (by simpa using h1) h2 fun j v hj => ?_
    have := h3 j v hj
    match j with
    | 0 => exact this
    | 1 => exact this
    | 2 =>
      have t : Rep w im ρ v .nilsl := this
      rw [t.inv_nilsl]
      exact .sl0
    | j + 3 => exact this
  · exact h
theorem nilAT_rep {c : Nat} {w : World} {im : Nat → Prop} {ρ : Ids} {v : Value} {x : AV} (h : Rep w im ρ v x) : Rep w im ρ v (nilAT c x) := by
  unfold nilAT
  split
  · obtain ⟨vs, rfl, h1, h3⟩ := h.inv_tup
    refine .tup (by simpa using h1) fun j v hj => ?_
    have := h3 j v hj
    match j with
    | 0 => exact nilA_rep this
    | 1 => exact nilA_rep this
    | j + 2 => exact this
  · exact h
theorem kept_up {f : FuncId} (hf : Holds Try.prog f keptS) : Holds Try.prog f keptT := by
  refine hf.up (nilAT 10) (fun _ _ _ _ _ h => nilAT_rep h) rfl rfl rfl fun args k h => ?_
  unfold keptT at h
  dsimp only at h
  split at h
  · refine ⟨h.1, fun g m ps hk => ?_, fun hk => ?_⟩
    · have := hk.in
      exact h.2 true g m ps hk (by omega) this.2.1 this.2.2
    · exact h.2 false 0 0 [] hk (by omega) (by omega) (by simp)
  · exact h.elim
def keptLoops (bl : List (List UInt8)) : List Nat → Nat → Option LoopAnn := fun _ r => match r with
  | 6 => some { V := Nat × Nat × List UInt8 × Int, st := fun v => ⟨mk 127 [(0, .sl 6 bl), (2, .ptr 1000 0), (4, .int .u64 v.2.2.2), (6, .row 0 7777 0 v.2.1), (7, .int .i64 v.1)], [], [(7777, .row 0 v.2.2.1), (1000, .cells [.int .i64 0, .int .u8 0, .nilsl])]⟩, I := fun v => v.1 ≤ bl.length ∧ (1 ≤ bl.length ∧ bl.length ≤ 32) ∧ v.2.1 = 48 * v.1 ∧ (0 ≤ v.2.2.2 ∧ v.2.2.2 < 4611686018427387904) ∧ v.2.2.1.length = v.2.1 ∧ GvI bl v.2.2.2 ∧ MidI bl v.1 v.2.2.1, μ := fun v => bl.length - v.1, boxes := [(6, 7777, 0)] }
  | 24 => some { V := Nat × List (List UInt8) × Int × Int × List Plan, st := fun v => ⟨mk 127 [(0, .sl 6 bl), (2, .ptr 1000 0), (14, .ptr 20006 0), (15, .sl 6 v.2.1), (16, .int .i64 v.1)], [], [(1000, .cells [.int .i64 0, .int .u8 0, .nilsl]), (20006, .cells [.int .i64 v.2.2.1, .int .u8 v.2.2.2.1, .sl 10 v.2.2.2.2])]⟩, I := fun v => v.1 ≤ bl.length ∧ (1 ≤ bl.length ∧ bl.length ≤ 32) ∧ v.2.1.length = bl.length ∧ (0 ≤ v.2.2.1 ∧ v.2.2.1 < 4611686018427387904) ∧ (0 ≤ v.2.2.2.1 ∧ v.2.2.2.1 ≤ 3) ∧ AgI bl v.2.1 v.2.2.1 v.2.2.2.1 v.2.2.2.2 v.1, μ := fun v => bl.length - v.1 }
  | _ => none
def rcountsS : Eng.Spec := { ro := false, own := [], run := fun args _ k => match args with
  | [.agg [.sl 0 d]] => D2 d ∧ (∀ (c g m : Int) (ps : List Plan), Cd d c g m ps → (c = 0 ∨ c = 1) → k (.tup [.int .i64 c, .agg [.int .i64 g, .int .u8 m, .sl 10 ps]]) [] []) ∧ (Cd d (-1) 0 0 [] → k (.tup [.int .i64 (-1), .agg [.int .i64 0, .int .u8 0, .nilsl]]) [] [])
  | _ => False }
def rcountsT : Eng.Spec := { ro := false, own := [], run := fun args _ k => match args with
  | [.agg [.sl 0 d]] => D2 d ∧ ∀ (c g m : Int) (ps : List Plan), Cd d c g m ps → (-1 ≤ c ∧ c ≤ 1) → (0 ≤ g ∧ g ≤ 4611686018427387903) → (0 ≤ m ∧ m ≤ 3) → ps.length ≤ 8 → k (.tup [.int .i64 c, .agg [.int .i64 g, .int .u8 m, .sl 10 ps]]) [] []
  | _ => False }
theorem rcounts_up {f : FuncId} (hf : Holds Try.prog f rcountsS) : Holds Try.prog f rcountsT := by
  refine hf.up (nilAT 10) (fun _ _ _ _ _ h => nilAT_rep h) rfl rfl rfl fun args k h => ?_
  unfold rcountsT at h
  dsimp only at h
  split at h
  · refine ⟨h.1, fun c g m ps hk hc => ?_, fun hk => ?_⟩
    · have := hk.in
      exact h.2 c g m ps hk this.1 (by omega) this.2.2.1 this.2.2.2
    · exact h.2 (-1) 0 0 [] hk (by omega) (by omega) (by omega) (by simp)
  · exact h.elim
def rSlotS : Eng.Spec := { ro := false, own := [], run := fun args _ k => match args with
  | [.agg [.sl 0 d], .int .i64 i] => (∀ e : Int, e = askD d → e ≠ 0 → k (.tup [.agg [.int .i64 0, .int .u8 0, .nilsl], .int .i64 e]) [] []) ∧ (D2 d → ¬ (i = 0 ∨ i = 1) → k (.tup [.agg [.int .i64 0, .int .u8 0, .nilsl], .int .i64 2]) [] []) ∧ (D2 d → (i = 0 ∨ i = 1) → KF (slotL d i) false 0 0 [] → k (.tup [.agg [.int .i64 0, .int .u8 0, .nilsl], .int .i64 8]) [] []) ∧ (D2 d → (i = 0 ∨ i = 1) → ∀ (g m : Int) (ps : List Plan), KF (slotL d i) true g m ps → k (.tup [.agg [.int .i64 g, .int .u8 m, .sl 10 ps], .int .i64 0]) [] [])
  | _ => False }
def rSlotT : Eng.Spec := { ro := false, own := [], run := fun args _ k => match args with
  | [.agg [.sl 0 d], .int .i64 i] => ∀ (e g m : Int) (ps : List Plan), SlR d i e g m ps → (0 ≤ e ∧ e ≤ 190) → (0 ≤ g ∧ g ≤ 4611686018427387903) → (0 ≤ m ∧ m ≤ 3) → ps.length ≤ 8 → k (.tup [.agg [.int .i64 g, .int .u8 m, .sl 10 ps], .int .i64 e]) [] []
  | _ => False }
theorem rSlot_up {f : FuncId} (hf : Holds Try.prog f rSlotS) : Holds Try.prog f rSlotT := by
  refine hf.up (nilAT 10) (fun _ _ _ _ _ h => nilAT_rep h) rfl rfl rfl fun args k h => ?_
  unfold rSlotT at h
  dsimp only at h
  split at h
  · refine ⟨fun e he h0 => ?_, fun h2 hi => ?_, fun h2 hi hk => ?_, fun h2 hi g m ps hk => ?_⟩
    · have := askD_in ‹_›
      exact h e 0 0 [] ⟨fun _ => ⟨he, rfl, rfl, rfl⟩, fun c => absurd (he.trans c) h0, fun c => absurd (he.trans c) h0⟩ (by omega) (by omega) (by omega) (by simp)
    · exact h 2 0 0 [] ⟨fun c => absurd h2.ask c, fun _ _ => ⟨rfl, rfl, rfl, rfl⟩, fun _ c => absurd c hi⟩ (by omega) (by omega) (by omega) (by simp)
    · exact h 8 0 0 [] ⟨fun c => absurd h2.ask c, fun _ c => absurd hi c, fun _ _ => .inl ⟨rfl, hk⟩⟩ (by omega) (by omega) (by omega) (by simp)
    · have := hk.in
      exact h 0 g m ps ⟨fun c => absurd h2.ask c, fun _ c => absurd hi c, fun _ _ => .inr ⟨rfl, hk⟩⟩ (by omega) (by omega) this.2.1 this.2.2
  · exact h.elim
def rReadS : Eng.Spec := { ro := false, own := [], run := fun args _ k => match args with
  | [.agg [.sl 0 d]] => (∀ e : Int, e = askD d → e ≠ 0 → k (.tup [.agg [.int .i64 0, .int .u8 0, .nilsl], .int .i64 e]) [] []) ∧ (D2 d → Cd d (-1) 0 0 [] → k (.tup [.agg [.int .i64 0, .int .u8 0, .nilsl], .int .i64 190]) [] []) ∧ (D2 d → ∀ (c g m : Int) (ps : List Plan), Cd d c g m ps → (c = 0 ∨ c = 1) → k (.tup [.agg [.int .i64 g, .int .u8 m, .sl 10 ps], .int .i64 0]) [] [])
  | _ => False }
def rReadT : Eng.Spec := { ro := false, own := [], run := fun args _ k => match args with
  | [.agg [.sl 0 d]] => ∀ (e g m : Int) (ps : List Plan), RdR d e g m ps → (0 ≤ e ∧ e ≤ 190) → (0 ≤ g ∧ g ≤ 4611686018427387903) → (0 ≤ m ∧ m ≤ 3) → ps.length ≤ 8 → k (.tup [.agg [.int .i64 g, .int .u8 m, .sl 10 ps], .int .i64 e]) [] []
  | _ => False }
theorem rRead_up {f : FuncId} (hf : Holds Try.prog f rReadS) : Holds Try.prog f rReadT := by
  refine hf.up (nilAT 10) (fun _ _ _ _ _ h => nilAT_rep h) rfl rfl rfl fun args k h => ?_
  unfold rReadT at h
  dsimp only at h
  split at h
  · refine ⟨fun e he h0 => ?_, fun h2 hk => ?_, fun h2 c g m ps hk hc => ?_⟩
    · have := askD_in ‹_›
      exact h e 0 0 [] ⟨fun _ => ⟨he, rfl, rfl, rfl⟩, fun c => absurd (he.trans c) h0⟩ (by omega) (by omega) (by omega) (by simp)
    · exact h 190 0 0 [] ⟨fun c => absurd h2.ask c, fun _ => ⟨_, hk, .inr ⟨rfl, rfl⟩⟩⟩ (by omega) (by omega) (by omega) (by simp)
    · have := hk.in
      exact h 0 g m ps ⟨fun c => absurd h2.ask c, fun _ => ⟨_, hk, .inl ⟨rfl, by omega⟩⟩⟩ (by omega) (by omega) this.2.2.1 this.2.2.2
  · exact h.elim
def newestS : Eng.Spec := { ro := true, own := [], run := fun args _ k => match args with
  | [.int .i64 g, .sl 6 bl] => (B64 bl ∧ 0 ≤ g ∧ g ≤ 4611686018427387903) ∧ ∀ r : Int, Nx g bl r → (1 ≤ r ∧ r ≤ 4611686018427387936) → k (.int .i64 r) [] []
  | _ => False }
def newestLoops (g : Int) (bl : List (List UInt8)) : List Nat → Nat → Option LoopAnn := fun s r => match r, s with
  | 2, _ => some { V := Nat × Int, st := fun v => ⟨mk 65 [(0, .int .i64 v.2), (1, .sl 6 bl), (5, .int .i64 v.1)], [], []⟩, I := fun v => v.1 ≤ bl.length ∧ (1 ≤ bl.length ∧ bl.length ≤ 32) ∧ (0 ≤ v.2 ∧ v.2 ≤ 4611686018427387903) ∧ MxI g bl v.1 v.2, μ := fun v => bl.length - v.1 }
  | 9, _ => some { V := Int, st := fun v => ⟨mk 65 [(0, .int .i64 v), (1, .sl 6 bl)], [], []⟩, I := fun v => (1 ≤ bl.length ∧ bl.length ≤ 32) ∧ (0 ≤ v ∧ v ≤ 4611686018427387935) ∧ (0 ≤ mxL g bl ∧ mxL g bl ≤ 4611686018427387903 ∧ mxL g bl ≤ v ∧ v ≤ mxL g bl + 32) ∧ Sx g bl (v + 1), μ := fun v => (mxL g bl + 33 - v).toNat, key := fun v => v.toNat }
  | 12, q :: _ => some { V := Nat × Bool, st := fun v => ⟨mk 65 [(0, .int .i64 ((q : Int) + 1)), (1, .sl 6 bl), (8, .bool v.2), (9, .int .i64 v.1)], [], []⟩, I := fun v => v.1 ≤ bl.length ∧ (1 ≤ bl.length ∧ bl.length ≤ 32) ∧ q ≤ 4611686018427387935 ∧ FrI bl v.1 ((q : Int) + 1) v.2, μ := fun v => bl.length - v.1 }
  | _, _ => none
def F4 : Tab := (37, mayS) :: F3r
def F5 : Tab := [(70, endsS), (72, readS), (73, partsT), (12, blocksT)]
def F6 : Tab := [(50, rslotT), (51, keptT), (45, askdS)]
def F7 : Tab := [(46, rcountsT), (45, askdS)]
end Go.Proofs.Ytcdflgfhkohldaa
