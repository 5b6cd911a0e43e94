import Derived.Test.YtpkfadgennejnaaLyC
namespace Go.Proofs.Ytpkfadgennejnaa
open Go Go.Eng Go.Lk Go.Proofs
set_option linter.unusedVariables false
/-- What is answered is written no more. -/
def twinZ : Eng.Spec := { ro := false, own := [], run := fun args _ k => match args with
  | [.sl 8 l] => small l ∧ k (.sl 8 l) [] []
  | _ => False }
theorem twinZ_ok : Holds Try.prog 15 twinZ :=
  twin_ok.fzA rfl rfl rfl fun args k h => by
    unfold twinZ at h
    dsimp only at h
    split at h
    · rename_i l
      refine ⟨h.1, fun n ys hy hn => ?_⟩
      show k (.sl 8 ((ys.drop 0).take n)) [] []
      rw [hy, hn, List.drop_zero, List.take_length]
      exact h.2
    · exact h.elim
def sameY : Eng.Spec := { sameMS with run := fun args B k => sameMS.run ((args.map oldA).map (Eng.nilC 8)) B k }
theorem sameY_ok : Holds Try.prog 20 sameY := (sameM_ok.nilC 8).oldA
def V1 : Tab := [(11, heavyS), (15, twinZ), (20, sameMS)]
theorem V1_ok : TabOk Try.prog V1 := ⟨lheavy_ok, twinZ_ok, sameM_ok, trivial⟩
def V2 (yb : Nat) : Tab := [(12, nextY yb), (16, rnextS), (14, freshS), (17, freshS), (18, sendS), (19, sendS), (20, sameY)]
theorem V2_ok (yb : Nat) : TabOkN yb Try.prog (V2 yb) := ⟨nextY_ok yb, rnext_ok.n yb, fresh_ok.n yb, rfresh_ok.n yb, send_ok.n yb, rsend_ok.n yb, sameY_ok.n yb, trivial⟩
noncomputable def tkBody : Code := match Try.f6.body with
  | some c => c
  | none => .skip
noncomputable def tkL1 : List Code := (seqs tkBody).take 4
noncomputable def tkL2 : List Code := ((seqs tkBody).drop 4).take 10
noncomputable def tkL3 : List Code := ((seqs tkBody).drop 4).drop 10
def tkA (an : Bool) (la ag : Int) (got : List Msg) (watch last : Int) : AS := ⟨mk 135 [(1, .sl 8 got), (2, .int .i64 watch), (3, .int .u32 last), (4, .ptr 1000 0), (9, .sl 8 got)], [], [(1000, .cells [.bool an, .int .u32 la, .int .i64 ag])]⟩
def tkB (an : Bool) (la ag : Int) (got : List Msg) (watch last : Int) (x : Value × Value) : AS := ⟨mk 135 [(1, .both (.sl 8 got) (.val x.1)), (2, .int .i64 watch), (3, .int .u32 last), (4, .ptr 1000 0), (9, .both (.sl 8 got) (.val x.2))], [], [(1000, .cells [.bool an, .int .u32 la, .int .i64 ag])]⟩
def tkC (x : Value × Value) : AS := ⟨mk 135 [(1, .val x.1), (9, .val x.2)], [], []⟩
def tkD (got : List Msg) : AS := ⟨mk 135 [(1, .sl 8 got), (9, .sl 8 got)], [], []⟩
structure Wil (yb : Nat) (n : Nat) (ws : List WB) : Prop where
  c1 : ws.length = n
  c2 : ∀ j : Nat, j < n → yb ≤ (ws.getD j (dflt 15)).nb
  c3 : n ≤ 1048576
theorem wil_yng {yb n : Nat} {an : Bool} {la : Int} {got : List Msg} {ys : List YMsg} (h : ys = (tk (an, la) got).map (yng yb)) (hl : ys.length = n) (hs : small got) : Wil yb n (ys.map YMsg.wild) := by
  have h1 := tk_length (an, la) got
  have h2 := hs.c1
  subst h
  rw [List.length_map] at hl
  refine ⟨by rw [List.length_map, List.length_map]; exact hl, fun j hj => ?_, by omega⟩
  rw [List.map_map]
  have hj' : j < (tk (an, la) got).length := by omega
  simp only [List.getD_eq_getElem?_getD, List.getElem?_map, List.getElem?_eq_getElem hj']
  exact Nat.le_refl _
def takesLoops (x : Value × Value) (yb : Nat) : List Nat → Nat → Option LoopAnn := fun s r => match r with
  | 13 => some { V := Int × Nat × List WB, st := fun v => ⟨mk 135 [(1, .val x.1), (9, .val x.2), (11, .row 15 5002 0 v.2.1), (24, .int .i64 v.1)], [], [(5002, .row 15 v.2.2)]⟩, I := fun v => (0 ≤ v.1 ∧ v.1 ≤ v.2.1) ∧ Wil yb v.2.1 v.2.2, μ := fun v => (v.2.1 - v.1).toNat, boxes := [(11, 5002, 15)], key := fun v => v.1.toNat * 2000000 + v.2.1 }
  | 16 => some { V := Int × Int × Nat × List WB, st := fun v => ⟨mk 135 [(1, .val x.1), (9, .val x.2), (11, .row 15 5002 0 v.2.2.1), (24, .int .i64 v.2.1), (25, .int .i64 v.1)], [], [(5002, .row 15 v.2.2.2)]⟩, I := fun v => (0 ≤ v.1 ∧ v.1 ≤ (v.2.2.2.getD v.2.1.toNat (dflt 15)).n) ∧ (0 ≤ v.2.1 ∧ v.2.1 < v.2.2.1) ∧ v.2.1.toNat * 2000000 + v.2.2.1 = s.headD 0 ∧ Wil yb v.2.2.1 v.2.2.2, μ := fun v => ((v.2.2.2.getD v.2.1.toNat (dflt 15)).n - v.1).toNat }
  | _ => none
def lawTakes : Eng.Spec := { ro := true, own := [], run := fun args _ k => match args with
  | [.agg [.bool an, .int .u32 la, .int .i64 ag], .sl 8 got, .int .i64 watch, .int .u32 last] => inK .u32 la ∧ inK .i64 ag ∧ inK .i64 watch ∧ inK .u32 last ∧ got.length ≤ 1048576 ∧ (got.map fun m : Msg => m.body.length).sum ≤ 1048576 ∧ k (.bool true) [] []
  | _ => False }
end Go.Proofs.Ytpkfadgennejnaa

