import Derived.Test.YtiekaipompepdaaBkM
import Derived.Test.YtiekaipompepdaaEngR
namespace Go.Proofs.Ytiekaipompepdaa
open Go Go.Eng Go.Bk Go.Proofs
set_option linter.unusedVariables false
def devN : List AV → List AV
  | [.agg [x]] => [.agg [nilC 0 x]]
  | l => l
theorem devN_len (l : List AV) : (devN l).length = l.length := by unfold devN; split <;> rfl
theorem devN_rep (w : World) (im : Nat → Prop) (ρ : Ids) (v : Value) (l : List AV) (j : Nat) (h : Rep w im ρ v (nth l j)) : Rep w im ρ v (nth (devN l) j) := by
  unfold devN
  split
  · match j with
    | 0 =>
      obtain ⟨vs, rfl, h1, h2, h3⟩ := (show Rep w im ρ v (.agg _) from h).inv_agg
      refine .agg h1 h2 fun i u hu => ?_
      have h4 := h3 i u hu
      match i with
      | 0 => exact nilC_rep h4
      | i + 1 => exact h4
    | j + 1 => exact h
  · exact h
def ifT (b : Bool) (p : Prop) : Prop := match b with
  | true => p
  | false => False
theorem ifT_ok {b : Bool} {p : Prop} (h : ifT b p) : b = true ∧ p := by
  cases b with
  | true => exact ⟨rfl, h⟩
  | false => exact h.elim
def newL : Eng.Spec := { ro := true, own := [], run := fun args _ k => match args with
  | [.int .i64 n] => forceL 0 (newO n) fun ys => forceN ys.length fun q => forceI (newE n) fun e => k (.tup [.agg [.row 0 0 0 q], .int .i64 e]) [] [.row 0 ys]
  | _ => False }
theorem newL_ok : Holds Try.prog 13 newL := (new_up new_ok).up (fun r => r) (fun _ _ _ _ _ h => h) rfl rfl rfl fun args k h => by
  show newD.run args [] _
  unfold newL at h
  dsimp only at h
  split at h
  · intro e ys q he hy hq
    subst he; subst hy; subst hq
    exact forceI_ok (forceN_ok (forceL_ok (c := 0) h))
  · exact h.elim
def manyL : Eng.Spec := { ro := true, own := [], run := fun args _ k => match args with
  | [.agg [.sl 0 d]] => forceI (if dOk d.length then ((d.length / 64 : Nat) : Int) else 0) fun m => forceI (chkE d) fun e => k (.tup [.int .i64 m, .int .i64 e]) [] []
  | _ => False }
theorem manyL_ok : Holds Try.prog 14 manyL := many_ok.up (fun r => r) (fun _ _ _ _ _ h => h) rfl rfl rfl fun args k h => by
  show manyS.run args [] _
  unfold manyL at h
  dsimp only at h
  split at h
  · intro e m he hm
    subst he; subst hm
    exact forceI_ok (forceI_ok h)
  · exact h.elim
def checkL : Eng.Spec := { ro := true, own := [], run := fun args _ k => match devN args with
  | [.agg [.sl 0 d]] => forceI (chkE d) fun e => k (.int .i64 e) [] []
  | _ => False }
theorem checkL_ok : Holds Try.prog 16 checkL := (check_ok.argUp devN devN_len devN_rep).up (fun r => r) (fun _ _ _ _ _ h => h) rfl rfl rfl fun args k h => by
  show checkS.run (devN args) [] _
  unfold checkL at h
  dsimp only at h
  generalize devN args = l at h
  split at h
  · intro e he
    subst he
    exact forceI_ok h
  · exact h.elim
def writeL : Eng.Spec := { ro := true, own := [], run := fun args _ k => match args with
  | [.agg [.sl 0 d], .int .i64 n, .sl 0 b] => ifT (Nat.ble d.length 1000000) (forceL 0 (doO d [⟨n, b⟩] 1 0) fun ys => forceN ys.length fun q => forceI (doE d [⟨n, b⟩] 1 0) fun e => k (.tup [.agg [.row 0 0 0 q], .int .i64 e]) [] [.row 0 ys])
  | _ => False }
theorem writeL_ok : Holds Try.prog 11 writeL := bwrite_ok.up (fun r => r) (fun _ _ _ _ _ h => h) rfl rfl rfl fun args k h => by
  show writeD.run args [] _
  unfold writeL at h
  dsimp only at h
  split at h
  · obtain ⟨h0, h⟩ := ifT_ok h
    refine ⟨Nat.le_of_ble_eq_true h0, fun e ys q he hy hq => ?_⟩
    subst he; subst hy; subst hq
    exact forceI_ok (forceN_ok (forceL_ok (c := 0) h))
  · exact h.elim
def readL : Eng.Spec := { ro := true, own := [], run := fun args _ k => match args with
  | [.agg [.sl 0 d], .int .i64 n] => ifT (Nat.ble d.length 1000000) (forceL 0 (rdO d n) fun ys => forceN ys.length fun q => forceI (askE d n) fun e => k (.tup [.row 0 0 0 q, .int .i64 e]) [] [.row 0 ys])
  | _ => False }
theorem readL_ok : Holds Try.prog 10 readL := (rd_up bread_ok).up (fun r => r) (fun _ _ _ _ _ h => h) rfl rfl rfl fun args k h => by
  show rdD.run args [] _
  unfold readL at h
  dsimp only at h
  split at h
  · obtain ⟨h0, h⟩ := ifT_ok h
    refine ⟨Nat.le_of_ble_eq_true h0, fun e ys q he hy hq => ?_⟩
    subst he; subst hy; subst hq
    exact forceI_ok (forceN_ok (forceL_ok (c := 0) h))
  · exact h.elim
def doL : Eng.Spec := { ro := true, own := [], run := fun args _ k => match args with
  | [.agg [.sl 0 d], .sl 9 l, .int .i64 w, .int .i64 t] => ifT (Nat.ble d.length 1000000 && Nat.ble l.length 1000000) (forceL 0 (doO d l w t) fun ys => forceN ys.length fun q => forceI (doE d l w t) fun e => k (.tup [.agg [.row 0 0 0 q], .int .i64 e]) [] [.row 0 ys])
  | _ => False }
theorem doL_ok : Holds Try.prog 9 doL := (do_up bdo_ok).up (fun r => r) (fun _ _ _ _ _ h => h) rfl rfl rfl fun args k h => by
  show doD.run args [] _
  unfold doL at h
  dsimp only at h
  split at h
  · obtain ⟨h0, h⟩ := ifT_ok h
    simp only [Bool.and_eq_true] at h0
    refine ⟨⟨Nat.le_of_ble_eq_true h0.1, Nat.le_of_ble_eq_true h0.2⟩, fun e ys q he hy hq => ?_⟩
    subst he; subst hy; subst hq
    exact forceI_ok (forceN_ok (forceL_ok (c := 0) h))
  · exact h.elim
def eqB (x y : List UInt8) : Bool := decide (x = y)
theorem eqB_iff (x y : List UInt8) : eqB x y = true ↔ x = y := by unfold eqB; rw [decide_eq_true_eq]
def sameL : Eng.Spec := { ro := true, own := [], run := fun args _ k => match args with
  | [.agg [.sl 0 a], .agg [.sl 0 b]] => forceB (eqB a b) fun r => k (.bool r) [] []
  | _ => False }
theorem forceB_k {b : Bool} {k : Bool → Prop} (h : forceB b k) : k b := by cases b <;> exact h
theorem sameL_ok : Holds Try.prog 12 sameL := bsame_ok.up (fun r => r) (fun _ _ _ _ _ h => h) rfl rfl rfl fun args k h => by
  show sameS.run args [] _
  unfold sameL at h
  dsimp only at h
  split at h
  · rename_i a b
    intro r hr
    have e : r = eqB a b := by rw [Bool.eq_iff_iff, hr]; exact (eqB_iff a b).symm
    rw [e]
    exact forceB_k h
  · exact h.elim
def onesL : Eng.Spec := { ro := true, own := [], run := fun args _ k => match args with
  | [.int .u8 x] => ifT (decide (0 ≤ x) && decide (x ≤ 255)) (forceL 0 (List.replicate 64 (UInt8.ofNat x.toNat)) fun ys => forceN ys.length fun q => k (.row 0 0 0 q) [] [.row 0 ys])
  | _ => False }
theorem onesL_ok : Holds Try.prog 15 onesL := ones_ok.up (fun r => r) (fun _ _ _ _ _ h => h) rfl rfl rfl fun args k h => by
  show onesS.run args [] _
  unfold onesL at h
  dsimp only at h
  split at h
  · obtain ⟨h0, h⟩ := ifT_ok h
    simp only [Bool.and_eq_true, decide_eq_true_eq] at h0
    refine ⟨h0, fun ys q hy hq => ?_⟩
    subst hy; subst hq
    exact forceN_ok (forceL_ok (c := 0) h)
  · exact h.elim
def lown2 : FuncId → Option Eng.Spec := fun f => match f with
  | 8 => some alvS
  | 13 => some newL
  | 14 => some manyL
  | 16 => some checkL
  | 11 => some writeL
  | 10 => some readL
  | 9 => some doL
  | 12 => some sameL
  | 15 => some onesL
  | _ => none
theorem lown2_ok : ∀ f s, lown2 f = some s → Holds Try.prog f s := fun f s h => by
  unfold lown2 at h
  split at h
  · cases h; exact alive_ok
  · cases h; exact newL_ok
  · cases h; exact manyL_ok
  · cases h; exact checkL_ok
  · cases h; exact writeL_ok
  · cases h; exact readL_ok
  · cases h; exact doL_ok
  · cases h; exact sameL_ok
  · cases h; exact onesL_ok
  · cases h
noncomputable def lenv2 : Env := lenvOf lown2
theorem lenv2_ok : ∀ f s, lenv2.spec f = some s → Holds Try.prog f s := litEnv_ok lown2_ok linl_ok 12
end Go.Proofs.Ytiekaipompepdaa

