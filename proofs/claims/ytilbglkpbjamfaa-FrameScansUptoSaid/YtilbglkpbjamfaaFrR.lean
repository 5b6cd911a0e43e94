import Derived.Test.YtilbglkpbjamfaaFrQ
namespace Go.Proofs.Ytilbglkpbjamfaa
open Go Go.Eng Go.Rw Go.Fr Go.Proofs
set_option linter.unusedVariables false
set_option maxHeartbeats 2000000 in
theorem feedn_vc (k : AV → List (Option Blk) → List Blk → Prop) (hk : k (AV.tup [AV.nilsl, AV.int IntKind.i64 (1 : Int)]) [] []) :
  (true = true) ∧
  (k (AV.tup [AV.nilsl, AV.int IntKind.i64 (1 : Int)]) [] []) := by
  refine ⟨by with_reducible rfl, ?_⟩ -- true = true
  -- k (AV.tup [AV.nilsl, AV.int IntKind.i64 (1 : Int)]) [] []
  exact hk

theorem feedn_ok : Holds Try.prog 25 feedN := by
  refine fn_soundB (env := mkEnv T4) (tab_ok T4_ok) Try.func25 Try.call25 (fun args B k h => ?_) (by decide)
  unfold feedN at h
  dsimp only at h
  split at h
  · rename_i _
    exact ⟨by kernel_rfl, fun _ _ => none, fun _ _ => none, .cast (by kernel_rfl) (feedn_vc  k h)⟩
  · exact h.elim
set_option maxHeartbeats 2000000 in
theorem feedp_vc (bg : Bool) (lg : Bool) (k : AV → List (Option Blk) → List Blk → Prop) (hk : k (AV.tup [AV.nilsl, AV.int IntKind.i64 (1 : Int)]) [some (Blk.cells [AV.nilsl, AV.bool bg, AV.bool lg, AV.bool false])] []) :
  (k (AV.tup [AV.nilsl, AV.int IntKind.i64 (1 : Int)]) [some (Blk.cells [AV.nilsl, AV.bool bg, AV.bool lg, AV.bool false])] []) := by
  -- k (AV.tup [AV.nilsl, AV.int IntKind.i64 (1 : Int)]) [some (Blk.cells [AV.nilsl, AV.bool bg, AV.bool lg, AV.bool false])] []
  exact hk

theorem feedp_ok : Holds Try.prog 25 feedP := by
  refine fn_soundB (env := mkEnv T4) (tab_ok T4_ok) Try.func25 Try.call25 (fun args B k h => ?_) (by decide)
  unfold feedP at h
  dsimp only at h
  split at h
  · rename_i bg lg
    exact ⟨by kernel_rfl, fun _ _ => none, fun _ _ => none, .cast (by kernel_rfl) (feedp_vc bg lg k h)⟩
  · exact h.elim
theorem feedX_ok : Holds Try.prog 25 feedX := feedn_ok.orB feedp_ok rfl rfl rfl fun args B k h => by
  unfold feedX at h
  dsimp only at h
  split at h
  · exact .inl h
  · exact .inr h
  · exact h.elim
def bE (b : List UInt8) : Int := if (bare b).isSome = true then 0 else 8
def bO (b : List UInt8) : List UInt8 := (bare b).getD []
def bareD : Eng.Spec := { ro := true, own := [], run := fun args _ k => match args with
  | [.sl 0 b] => b.length ≤ 1000000 ∧ ∀ (e : Int) (ys : List UInt8) (n : Nat), e = bE b → ys = bO b → ys.length = n → k (.tup [.row 0 0 0 n, .int .i64 e]) [] [.row 0 ys]
  | _ => False }
theorem bareD_ok : Holds Try.prog 16 bareD := bare_ok.nlAt 0 0 rfl rfl rfl fun args k h => by
  unfold bareD at h
  dsimp only at h
  split at h
  · obtain ⟨h1, h2⟩ := h
    refine ⟨h1, fun hb => ?_, fun o n hb hn => ?_⟩
    · exact h2 8 [] 0 (by unfold bE; rw [hb]; rfl) (by unfold bO; rw [hb]; rfl) rfl
    · exact h2 0 o n (by unfold bE; rw [hb]; rfl) (by unfold bO; rw [hb]; rfl) hn
  · exact h.elim
def wE (bo : List UInt8) : Int := if 512 < bo.length then 3 else 0
def wO (kd sq : Int) (bo : List UInt8) : List UInt8 := if 512 < bo.length then [] else wr kd sq bo
def writeD : Eng.Spec := { ro := true, own := [], run := fun args _ k => match aggB args with
  | [.agg [.int .u8 kd, .int .u32 sq, .sl 0 bo]] => inK .u8 kd ∧ inK .u32 sq ∧ ∀ (e : Int) (ys : List UInt8) (n : Nat), e = wE bo → ys = wO kd sq bo → ys.length = n → k (.tup [.row 0 0 0 n, .int .i64 e]) [] [.row 0 ys]
  | _ => False }
theorem writeD_ok : Holds Try.prog 12 writeD := by
  refine (fwrite_ok.argUp aggB aggB_len aggB_rep).nlAt 0 0 rfl rfl rfl fun args k h => ?_
  show writeS.run (aggB args) [] _
  unfold writeD at h
  dsimp only at h
  generalize aggB args = l at h
  split at h
  · rename_i kd sq bo
    obtain ⟨h1, h2, h3⟩ := h
    refine ⟨h1, h2, fun hb => ?_, fun hb ys n hy hn => ?_⟩
    · exact h3 3 [] 0 (by unfold wE; rw [if_pos hb]) (by unfold wO; rw [if_pos hb]) rfl
    · exact h3 0 ys n (by unfold wE; rw [if_neg (by omega)]) (by unfold wO; rw [if_neg (by omega)]; exact hy) hn
  · exact h.elim
def sE (b : List UInt8) : Int := if 16384 < b.length then 3 else 0
def sO (b : List UInt8) : List Msg := if 16384 < b.length then [] else scan b
def sA (b : List UInt8) : Int := if 16384 < b.length then 0 else lastE b
def scanD : Eng.Spec := { ro := false, own := [], run := fun args _ k => match args.map nilB with
  | [.sl 0 b] => ∀ (e a : Int) (ys : List Msg) (n : Nat), e = sE b → a = sA b → ys = sO b → ys.length = n → k (.tup [.row 8 0 0 n, .int .i64 a, .int .i64 e]) [] [.row 8 ys]
  | _ => False }
theorem scanD_ok : Holds Try.prog 21 scanD := by
  refine (fscan_ok.nil).nlAt 8 0 rfl rfl rfl fun args k h => ?_
  show scanS.run (args.map nilB) [] _
  unfold scanD at h
  dsimp only at h
  generalize args.map nilB = l at h
  split at h
  · rename_i b
    refine ⟨fun hb => ?_, fun hb ys m a hy hm ha h1 => ?_⟩
    · exact h 3 0 [] 0 (by unfold sE; rw [if_pos hb]) (by unfold sA; rw [if_pos hb]) (by unfold sO; rw [if_pos hb]) rfl
    · exact h 0 a ys m (by unfold sE; rw [if_neg (by omega)]) (by unfold sA; rw [if_neg (by omega)]; exact ha) (by unfold sO; rw [if_neg (by omega)]; exact hy) hm
  · exact h.elim
def openD : Eng.Spec := { ro := true, own := [], run := fun args _ k => match args with
  | [.nilsl] => k (.tup [.agg [.int .u8 0, .int .u32 0, .nilsl], .int .i64 8]) [] []
  | _ => False }
theorem openD_ok : Holds Try.prog 14 openD := by
  refine (open_ok.nil).up (fun r => r) (fun _ _ _ _ _ h => h) rfl rfl rfl fun args k h => ?_
  unfold openD at h
  dsimp only at h
  split at h
  · exact ⟨fun _ => h, fun o => by obtain ⟨o, -⟩ := o; simp at o⟩
  · exact h.elim
def T7 : Tab := [(27, trueS), (16, bareD), (12, writeD), (21, scanD), (14, openD), (18, stuffS), (25, feedX)]
theorem T7_ok : TabOk Try.prog T7 := ⟨alive_ok, bareD_ok, writeD_ok, scanD_ok, openD_ok, stuff_ok, feedX_ok, trivial⟩
end Go.Proofs.Ytilbglkpbjamfaa

