import Derived.Test.YtiekaipompepdaaEngW
import Derived.Test.YtiekaipompepdaaProg
namespace Go.Proofs.Ytiekaipompepdaa
open Go Go.Eng Go.Proofs
set_option linter.unusedVariables false

def tyC : Nat → Nat := fun t => match t with
  | 5 => 0
  | 28 => 9
  | _ => 99
def lown : FuncId → Option Eng.Spec := fun f => none
theorem lown_ok : ∀ f s, lown f = some s → Holds Try.prog f s := fun f s h => by cases h
noncomputable def linl : FuncId → Option Func := fun f => match f with
  | 3 => some Try.f3
  | 4 => some Try.f4
  | 5 => some Try.f5
  | 6 => some Try.f6
  | 7 => some Try.f7
  | 8 => some Try.f8
  | 9 => some Try.f9
  | 10 => some Try.f10
  | 11 => some Try.f11
  | 12 => some Try.f12
  | 13 => some Try.f13
  | 14 => some Try.f14
  | 15 => some Try.f15
  | 16 => some Try.f16
  | 17 => some Try.f17
  | 18 => some Try.f18
  | 19 => some Try.f19
  | 20 => some Try.f20
  | 21 => some Try.f21
  | 22 => some Try.f22
  | 23 => some Try.f23
  | 24 => some Try.f24
  | 25 => some Try.f25
  | 26 => some Try.f26
  | 27 => some Try.f27
  | 28 => some Try.f28
  | 29 => some Try.f29
  | 30 => some Try.f30
  | 31 => some Try.f31
  | 32 => some Try.f32
  | _ => none
theorem linl_ok : ∀ f fn, linl f = some fn → Try.prog.funcs[f]? = some fn ∧ ∀ args w, (callFunc f args).run Try.prog w = .ok (.enter f args) w := fun f fn h => by
  unfold linl at h
  split at h
  · cases h; exact ⟨Try.func3, Try.call3⟩
  · cases h; exact ⟨Try.func4, Try.call4⟩
  · cases h; exact ⟨Try.func5, Try.call5⟩
  · cases h; exact ⟨Try.func6, Try.call6⟩
  · cases h; exact ⟨Try.func7, Try.call7⟩
  · cases h; exact ⟨Try.func8, Try.call8⟩
  · cases h; exact ⟨Try.func9, Try.call9⟩
  · cases h; exact ⟨Try.func10, Try.call10⟩
  · cases h; exact ⟨Try.func11, Try.call11⟩
  · cases h; exact ⟨Try.func12, Try.call12⟩
  · cases h; exact ⟨Try.func13, Try.call13⟩
  · cases h; exact ⟨Try.func14, Try.call14⟩
  · cases h; exact ⟨Try.func15, Try.call15⟩
  · cases h; exact ⟨Try.func16, Try.call16⟩
  · cases h; exact ⟨Try.func17, Try.call17⟩
  · cases h; exact ⟨Try.func18, Try.call18⟩
  · cases h; exact ⟨Try.func19, Try.call19⟩
  · cases h; exact ⟨Try.func20, Try.call20⟩
  · cases h; exact ⟨Try.func21, Try.call21⟩
  · cases h; exact ⟨Try.func22, Try.call22⟩
  · cases h; exact ⟨Try.func23, Try.call23⟩
  · cases h; exact ⟨Try.func24, Try.call24⟩
  · cases h; exact ⟨Try.func25, Try.call25⟩
  · cases h; exact ⟨Try.func26, Try.call26⟩
  · cases h; exact ⟨Try.func27, Try.call27⟩
  · cases h; exact ⟨Try.func28, Try.call28⟩
  · cases h; exact ⟨Try.func29, Try.call29⟩
  · cases h; exact ⟨Try.func30, Try.call30⟩
  · cases h; exact ⟨Try.func31, Try.call31⟩
  · cases h; exact ⟨Try.func32, Try.call32⟩
  · cases h
noncomputable def lenvOf (own : FuncId → Option Eng.Spec) : Env := litEnv Try.prog tyC own linl (fun _ => true) (fun f => match f with | 28 => [false] | _ => []) (fun _ _ => true) 20000 12
noncomputable def lenv : Env := lenvOf lown
theorem lenv_ok : ∀ f s, lenv.spec f = some s → Holds Try.prog f s := litEnv_ok lown_ok linl_ok 12
end Go.Proofs.Ytiekaipompepdaa
