import Derived.Test.YtcnnbofjgmohaaaDoorEngW
import Derived.Test.YtcnnbofjgmohaaaDoorProg
namespace Go.Proofs.YtcnnbofjgmohaaaDoor
open Go Go.Eng Go.Proofs
set_option linter.unusedVariables false

def tyC : Nat → Nat := fun t => match t with
  | 3 => 1
  | 5 => 0
  | _ => 99
theorem add64_ok : Holds Tryd.prog 27 add64S := add64_holds Tryd.func27 (by kernel_rfl) (by kernel_rfl) (by kernel_rfl) (by kernel_rfl)
def lown : FuncId → Option Eng.Spec := fun f => match f with
  | 27 => some add64L
  | _ => none
theorem lown_ok : ∀ f s, lown f = some s → Holds Tryd.prog f s := fun f s h => by
  unfold lown at h
  split at h
  · cases h; exact add64_lit add64_ok
  · cases h
noncomputable def linl : FuncId → Option Func := fun f => match f with
  | 3 => some Tryd.f3
  | 4 => some Tryd.f4
  | 5 => some Tryd.f5
  | 6 => some Tryd.f6
  | 7 => some Tryd.f7
  | 8 => some Tryd.f8
  | 9 => some Tryd.f9
  | 10 => some Tryd.f10
  | 11 => some Tryd.f11
  | 12 => some Tryd.f12
  | 13 => some Tryd.f13
  | 14 => some Tryd.f14
  | 15 => some Tryd.f15
  | 16 => some Tryd.f16
  | 17 => some Tryd.f17
  | 18 => some Tryd.f18
  | 19 => some Tryd.f19
  | 20 => some Tryd.f20
  | 21 => some Tryd.f21
  | 22 => some Tryd.f22
  | 23 => some Tryd.f23
  | 24 => some Tryd.f24
  | 26 => some Tryd.f26
  | _ => none
theorem linl_ok : ∀ f fn, linl f = some fn → Tryd.prog.funcs[f]? = some fn ∧ ∀ args w, (callFunc f args).run Tryd.prog w = .ok (.enter f args) w := fun f fn h => by
  unfold linl at h
  split at h
  · cases h; exact ⟨Tryd.func3, Tryd.call3⟩
  · cases h; exact ⟨Tryd.func4, Tryd.call4⟩
  · cases h; exact ⟨Tryd.func5, Tryd.call5⟩
  · cases h; exact ⟨Tryd.func6, Tryd.call6⟩
  · cases h; exact ⟨Tryd.func7, Tryd.call7⟩
  · cases h; exact ⟨Tryd.func8, Tryd.call8⟩
  · cases h; exact ⟨Tryd.func9, Tryd.call9⟩
  · cases h; exact ⟨Tryd.func10, Tryd.call10⟩
  · cases h; exact ⟨Tryd.func11, Tryd.call11⟩
  · cases h; exact ⟨Tryd.func12, Tryd.call12⟩
  · cases h; exact ⟨Tryd.func13, Tryd.call13⟩
  · cases h; exact ⟨Tryd.func14, Tryd.call14⟩
  · cases h; exact ⟨Tryd.func15, Tryd.call15⟩
  · cases h; exact ⟨Tryd.func16, Tryd.call16⟩
  · cases h; exact ⟨Tryd.func17, Tryd.call17⟩
  · cases h; exact ⟨Tryd.func18, Tryd.call18⟩
  · cases h; exact ⟨Tryd.func19, Tryd.call19⟩
  · cases h; exact ⟨Tryd.func20, Tryd.call20⟩
  · cases h; exact ⟨Tryd.func21, Tryd.call21⟩
  · cases h; exact ⟨Tryd.func22, Tryd.call22⟩
  · cases h; exact ⟨Tryd.func23, Tryd.call23⟩
  · cases h; exact ⟨Tryd.func24, Tryd.call24⟩
  · cases h; exact ⟨Tryd.func26, Tryd.call26⟩
  · cases h
noncomputable def lenvOf (own : FuncId → Option Eng.Spec) : Env := litEnv Tryd.prog tyC own linl (fun _ => true) (fun f => match f with | 18 => [false, false] | 19 => [false, false] | 20 => [false, false] | 21 => [false, false] | 22 => [false, false] | 26 => [false, false] | _ => []) (fun _ _ => true) 20000 12
noncomputable def lenv : Env := lenvOf lown
theorem lenv_ok : ∀ f s, lenv.spec f = some s → Holds Tryd.prog f s := litEnv_ok lown_ok linl_ok 12
end Go.Proofs.YtcnnbofjgmohaaaDoor
