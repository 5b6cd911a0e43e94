import Derived.Test.YtdhdbdaceklkhaaEngV
namespace Go.Eng
open Go
set_option linter.unusedVariables false

/-- Functions' specs, by number. -/
abbrev Tab := List (Nat × Spec)
def look : Tab → FuncId → Option Spec
  | [], _ => none
  | (j, s) :: r, f => match Nat.beq j f with
    | true => some s
    | false => look r f
def TabOk (P : Program) : Tab → Prop
  | [] => True
  | (j, s) :: r => Holds P j s ∧ TabOk P r
theorem tab_ok {P : Program} : ∀ {T : Tab}, TabOk P T → ∀ f s, look T f = some s → Holds P f s
  | [], _, f, s, h => by cases h
  | (j, t) :: r, hT, f, s, h => by
    unfold look at h
    split at h
    · rename_i e
      have := nbeq e
      subst this
      cases h
      exact hT.1
    · exact tab_ok hT.2 f s h
def mkE (P : Program) (code : TypeId → Nat) (T : Tab) : Env := ⟨P, code, look T, fun _ _ => none, fun _ _ => none, [], false, 0⟩

/-- Numbers of 64 bits with a sign in, one out. -/
def s1 (f : Int → Int) (B : Int → Prop) : Spec := { ro := true, own := [], run := fun args _ k => match args with
  | [.int .i64 a] => inK .i64 a ∧ ∀ r : Int, r = f a → B r → k (.int .i64 r) [] []
  | _ => False }
def s2 (f : Int → Int → Int) (B : Int → Prop) : Spec := { ro := true, own := [], run := fun args _ k => match args with
  | [.int .i64 a, .int .i64 b] => inK .i64 a ∧ inK .i64 b ∧ ∀ r : Int, r = f a b → B r → k (.int .i64 r) [] []
  | _ => False }
def s3 (f : Int → Int → Int → Int) (B : Int → Prop) : Spec := { ro := true, own := [], run := fun args _ k => match args with
  | [.int .i64 a, .int .i64 b, .int .i64 c] => inK .i64 a ∧ inK .i64 b ∧ inK .i64 c ∧ ∀ r : Int, r = f a b c → B r → k (.int .i64 r) [] []
  | _ => False }
/-- A function of no arguments that answers true. -/
def trueS : Spec := { ro := true, own := [], run := fun args _ k => match args with
  | [] => k (.bool true) [] []
  | _ => False }
end Go.Eng
namespace Go.Eng
open Go
theorem k_true {k : AV → List (Option Blk) → List Blk → Prop} {b : Bool} (hk : k (.bool true) [] []) (h : b = true) : k (.bool b) [] [] := h ▸ hk
/-- A statement's function of numbers. -/
def law1 (κ : IntKind) : Spec := { ro := true, own := [], run := fun args _ k => match args with
  | [.int κ' a] => κ' = κ ∧ inK κ a ∧ k (.bool true) [] []
  | _ => False }
def lawI2 : Spec := { ro := true, own := [], run := fun args _ k => match args with
  | [.int .i64 a, .int .i64 b] => inK .i64 a ∧ inK .i64 b ∧ k (.bool true) [] []
  | _ => False }
def lawI3 : Spec := { ro := true, own := [], run := fun args _ k => match args with
  | [.int .i64 a, .int .i64 b, .int .i64 c] => inK .i64 a ∧ inK .i64 b ∧ inK .i64 c ∧ k (.bool true) [] []
  | _ => False }
def lawI4 : Spec := { ro := true, own := [], run := fun args _ k => match args with
  | [.int .i64 a, .int .i64 b, .int .i64 c, .int .i64 d] => inK .i64 a ∧ inK .i64 b ∧ inK .i64 c ∧ inK .i64 d ∧ k (.bool true) [] []
  | _ => False }
def lawI7 : Spec := { ro := true, own := [], run := fun args _ k => match args with
  | [.int .i64 a, .int .i64 b, .int .i64 c, .int .i64 d, .int .i64 e, .int .i64 f, .int .i64 g] => inK .i64 a ∧ inK .i64 b ∧ inK .i64 c ∧ inK .i64 d ∧ inK .i64 e ∧ inK .i64 f ∧ inK .i64 g ∧ k (.bool true) [] []
  | _ => False }
end Go.Eng
