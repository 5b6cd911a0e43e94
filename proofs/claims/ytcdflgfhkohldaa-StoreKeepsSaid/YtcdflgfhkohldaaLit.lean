import Derived.Test.YtcdflgfhkohldaaEngW
import Derived.Test.YtcdflgfhkohldaaProg
namespace Go.Proofs.Ytcdflgfhkohldaa
open Go Go.Eng Go.Proofs
set_option linter.unusedVariables false
def tyC : Nat → Nat := fun t => match t with
  | 71 => 10
  | 32 => 6
  | 5 => 0
  | 56 => 9
  | 3 => 1
  | 155 => 2
  | 69 => 7
  | 83 => 3
  | _ => 99
def lown : FuncId → Option Eng.Spec := fun f => none
theorem lown_ok : ∀ f s, lown f = some s → Holds Try.prog f s := fun f s h => by cases h
noncomputable def linl : FuncId → Option Func := fun f => match f with
  | 3 => some Try.f3
  | 4 => some Try.f4
  | 5 => some Try.f5
  | 6 => some Try.f6
  | 7 => some Try.f7
  | 8 => some Try.f8
  | 9 => some Try.f9
  | 10 => some Try.f10
  | 11 => some Try.f11
  | 12 => some Try.f12
  | 13 => some Try.f13
  | 14 => some Try.f14
  | 15 => some Try.f15
  | 16 => some Try.f16
  | 17 => some Try.f17
  | 18 => some Try.f18
  | 19 => some Try.f19
  | 20 => some Try.f20
  | 21 => some Try.f21
  | 22 => some Try.f22
  | 23 => some Try.f23
  | 24 => some Try.f24
  | 25 => some Try.f25
  | 26 => some Try.f26
  | 27 => some Try.f27
  | 28 => some Try.f28
  | 29 => some Try.f29
  | 30 => some Try.f30
  | 31 => some Try.f31
  | 32 => some Try.f32
  | 33 => some Try.f33
  | 34 => some Try.f34
  | 35 => some Try.f35
  | 36 => some Try.f36
  | 37 => some Try.f37
  | 38 => some Try.f38
  | 39 => some Try.f39
  | 40 => some Try.f40
  | 41 => some Try.f41
  | 42 => some Try.f42
  | 43 => some Try.f43
  | 44 => some Try.f44
  | 45 => some Try.f45
  | 46 => some Try.f46
  | 47 => some Try.f47
  | 48 => some Try.f48
  | 49 => some Try.f49
  | 50 => some Try.f50
  | 51 => some Try.f51
  | 52 => some Try.f52
  | 53 => some Try.f53
  | 54 => some Try.f54
  | 55 => some Try.f55
  | 56 => some Try.f56
  | 57 => some Try.f57
  | 58 => some Try.f58
  | 59 => some Try.f59
  | 60 => some Try.f60
  | 62 => some Try.f62
  | 63 => some Try.f63
  | 64 => some Try.f64
  | 65 => some Try.f65
  | 66 => some Try.f66
  | 67 => some Try.f67
  | 68 => some Try.f68
  | 69 => some Try.f69
  | 70 => some Try.f70
  | 71 => some Try.f71
  | 72 => some Try.f72
  | 73 => some Try.f73
  | 74 => some Try.f74
  | 75 => some Try.f75
  | 76 => some Try.f76
  | 77 => some Try.f77
  | 78 => some Try.f78
  | 79 => some Try.f79
  | 80 => some Try.f80
  | 81 => some Try.f81
  | 82 => some Try.f82
  | 83 => some Try.f83
  | 84 => some Try.f84
  | _ => none
theorem linl_ok : ∀ f fn, linl f = some fn → Try.prog.funcs[f]? = some fn ∧ ∀ args w, (callFunc f args).run Try.prog w = .ok (.enter f args) w := fun f fn h => by
  unfold linl at h
  split at h
  · cases h; exact ⟨Try.func3, Try.call3⟩
  · cases h; exact ⟨Try.func4, Try.call4⟩
  · cases h; exact ⟨Try.func5, Try.call5⟩
  · cases h; exact ⟨Try.func6, Try.call6⟩
  · cases h; exact ⟨Try.func7, Try.call7⟩
  · cases h; exact ⟨Try.func8, Try.call8⟩
  · cases h; exact ⟨Try.func9, Try.call9⟩
  · cases h; exact ⟨Try.func10, Try.call10⟩
  · cases h; exact ⟨Try.func11, Try.call11⟩
  · cases h; exact ⟨Try.func12, Try.call12⟩
  · cases h; exact ⟨Try.func13, Try.call13⟩
  · cases h; exact ⟨Try.func14, Try.call14⟩
  · cases h; exact ⟨Try.func15, Try.call15⟩
  · cases h; exact ⟨Try.func16, Try.call16⟩
  · cases h; exact ⟨Try.func17, Try.call17⟩
  · cases h; exact ⟨Try.func18, Try.call18⟩
  · cases h; exact ⟨Try.func19, Try.call19⟩
  · cases h; exact ⟨Try.func20, Try.call20⟩
  · cases h; exact ⟨Try.func21, Try.call21⟩
  · cases h; exact ⟨Try.func22, Try.call22⟩
  · cases h; exact ⟨Try.func23, Try.call23⟩
  · cases h; exact ⟨Try.func24, Try.call24⟩
  · cases h; exact ⟨Try.func25, Try.call25⟩
  · cases h; exact ⟨Try.func26, Try.call26⟩
  · cases h; exact ⟨Try.func27, Try.call27⟩
  · cases h; exact ⟨Try.func28, Try.call28⟩
  · cases h; exact ⟨Try.func29, Try.call29⟩
  · cases h; exact ⟨Try.func30, Try.call30⟩
  · cases h; exact ⟨Try.func31, Try.call31⟩
  · cases h; exact ⟨Try.func32, Try.call32⟩
  · cases h; exact ⟨Try.func33, Try.call33⟩
  · cases h; exact ⟨Try.func34, Try.call34⟩
  · cases h; exact ⟨Try.func35, Try.call35⟩
  · cases h; exact ⟨Try.func36, Try.call36⟩
  · cases h; exact ⟨Try.func37, Try.call37⟩
  · cases h; exact ⟨Try.func38, Try.call38⟩
  · cases h; exact ⟨Try.func39, Try.call39⟩
  · cases h; exact ⟨Try.func40, Try.call40⟩
  · cases h; exact ⟨Try.func41, Try.call41⟩
  · cases h; exact ⟨Try.func42, Try.call42⟩
  · cases h; exact ⟨Try.func43, Try.call43⟩
  · cases h; exact ⟨Try.func44, Try.call44⟩
  · cases h; exact ⟨Try.func45, Try.call45⟩
  · cases h; exact ⟨Try.func46, Try.call46⟩
  · cases h; exact ⟨Try.func47, Try.call47⟩
  · cases h; exact ⟨Try.func48, Try.call48⟩
  · cases h; exact ⟨Try.func49, Try.call49⟩
  · cases h; exact ⟨Try.func50, Try.call50⟩
  · cases h; exact ⟨Try.func51, Try.call51⟩
  · cases h; exact ⟨Try.func52, Try.call52⟩
  · cases h; exact ⟨Try.func53, Try.call53⟩
  · cases h; exact ⟨Try.func54, Try.call54⟩
  · cases h; exact ⟨Try.func55, Try.call55⟩
  · cases h; exact ⟨Try.func56, Try.call56⟩
  · cases h; exact ⟨Try.func57, Try.call57⟩
  · cases h; exact ⟨Try.func58, Try.call58⟩
  · cases h; exact ⟨Try.func59, Try.call59⟩
  · cases h; exact ⟨Try.func60, Try.call60⟩
  · cases h; exact ⟨Try.func62, Try.call62⟩
  · cases h; exact ⟨Try.func63, Try.call63⟩
  · cases h; exact ⟨Try.func64, Try.call64⟩
  · cases h; exact ⟨Try.func65, Try.call65⟩
  · cases h; exact ⟨Try.func66, Try.call66⟩
  · cases h; exact ⟨Try.func67, Try.call67⟩
  · cases h; exact ⟨Try.func68, Try.call68⟩
  · cases h; exact ⟨Try.func69, Try.call69⟩
  · cases h; exact ⟨Try.func70, Try.call70⟩
  · cases h; exact ⟨Try.func71, Try.call71⟩
  · cases h; exact ⟨Try.func72, Try.call72⟩
  · cases h; exact ⟨Try.func73, Try.call73⟩
  · cases h; exact ⟨Try.func74, Try.call74⟩
  · cases h; exact ⟨Try.func75, Try.call75⟩
  · cases h; exact ⟨Try.func76, Try.call76⟩
  · cases h; exact ⟨Try.func77, Try.call77⟩
  · cases h; exact ⟨Try.func78, Try.call78⟩
  · cases h; exact ⟨Try.func79, Try.call79⟩
  · cases h; exact ⟨Try.func80, Try.call80⟩
  · cases h; exact ⟨Try.func81, Try.call81⟩
  · cases h; exact ⟨Try.func82, Try.call82⟩
  · cases h; exact ⟨Try.func83, Try.call83⟩
  · cases h; exact ⟨Try.func84, Try.call84⟩
  · cases h
noncomputable def lenvOf (own : FuncId → Option Eng.Spec) : Env := litEnv Try.prog tyC own linl (fun _ => true) (fun f => match f with | 29 => [] | _ => []) (fun _ _ => true) 20000 12
noncomputable def lenv : Env := lenvOf lown
theorem lenv_ok : ∀ f s, lenv.spec f = some s → Holds Try.prog f s := litEnv_ok lown_ok linl_ok 12
end Go.Proofs.Ytcdflgfhkohldaa
