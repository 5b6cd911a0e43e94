import Derived.Test.YtpkfadgennejnaaEngR
import Derived.Laws.Externs
namespace Go.Eng
open Go
set_option linter.unusedVariables false

/-- All is known: functions are walked where they are called, loops round by round. -/
def litSpec (own : FuncId → Option Spec) (inl : FuncId → Option Func) (ro : FuncId → Bool) (lo : FuncId → List Bool) (ln : FuncId → Nat → Bool) (env : Env) (f : FuncId) : Option Spec := match own f with
  | some s => some s
  | none => match inl f with
    | some fn => match lo f with
      | [] => some { ro := ro f, own := [], run := fun args _ k => match Nat.ble args.length fn.ntmps with
        | true => fnVC env (ro f) fn args k
        | false => False }
      | o :: os => some { ro := false, own := o :: os, lend := ln f, run := fun args B k => match Nat.ble args.length fn.ntmps with
        | true => fnVCB env (o :: os) fn args B k
        | false => False }
    | none => none
def litEnv (P : Program) (code : TypeId → Nat) (own : FuncId → Option Spec) (inl : FuncId → Option Func) (ro : FuncId → Bool) (lo : FuncId → List Bool) (ln : FuncId → Nat → Bool) (fuel : Nat) : Nat → Env
  | 0 => ⟨P, code, own, fun _ _ => none, fun _ _ => none, [], true, fuel, 0, fun _ => 0, (0, none)⟩
  | n + 1 => ⟨P, code, litSpec own inl ro lo ln (litEnv P code own inl ro lo ln fuel n), fun _ _ => none, fun _ _ => none, [], true, fuel, 0, fun _ => 0, (0, none)⟩

section
variable {P : Program} {code : TypeId → Nat} {own : FuncId → Option Spec} {inl : FuncId → Option Func} {ro : FuncId → Bool} {lo : FuncId → List Bool} {ln : FuncId → Nat → Bool} {fuel : Nat}
theorem litEnv_P (n : Nat) : (litEnv P code own inl ro lo ln fuel n).P = P := by cases n <;> rfl
theorem litEnv_yw (n : Nat) : (litEnv P code own inl ro lo ln fuel n).yw = (0, none) := by cases n <;> rfl

theorem litEnv_ok (hown : ∀ f s, own f = some s → Holds P f s)
    (hin : ∀ f fn, inl f = some fn → P.funcs[f]? = some fn ∧ ∀ args w, (callFunc f args).run P w = .ok (.enter f args) w) : ∀ n f s, (litEnv P code own inl ro lo ln fuel n).spec f = some s → Holds P f s
  | 0, f, s, h => hown f s h
  | n + 1, f, s, h => by
    simp only [litEnv, litSpec] at h
    split at h
    · rename_i s' hs
      simp only [Option.some.injEq] at h; subst h
      exact hown f _ hs
    · split at h
      · rename_i fn hfn
        obtain ⟨h1, h2⟩ := hin f fn hfn
        have hP : (litEnv P code own inl ro lo ln fuel n).P = P := litEnv_P n
        split at h
        · simp only [Option.some.injEq] at h; subst h
          have := fn_sound (hyw := litEnv_yw n) (env := litEnv P code own inl ro lo ln fuel n) (f := f) (fn := fn)
            (s := { ro := ro f, own := [], run := fun args _ k => match Nat.ble args.length fn.ntmps with
                | true => fnVC (litEnv P code own inl ro lo ln fuel n) (ro f) fn args k
                | false => False })
            (fun f s h => by rw [hP]; exact litEnv_ok hown hin n f s h) (by rw [hP]; exact h1) (fun args w => by rw [hP]; exact h2 args w) (fun args k h => by
            dsimp only at h
            split at h
            · rename_i hle
              exact ⟨hle, (litEnv P code own inl ro lo ln fuel n).loops, (litEnv P code own inl ro lo ln fuel n).cuts, ⟨h⟩⟩
            · exact h.elim)
          rw [hP] at this
          exact this
        · rename_i o os ho
          simp only [Option.some.injEq] at h; subst h
          have := fn_soundB (hyw := litEnv_yw n) (env := litEnv P code own inl ro lo ln fuel n) (f := f) (fn := fn)
            (s := { ro := false, own := o :: os, lend := ln f, run := fun args B k => match Nat.ble args.length fn.ntmps with
                | true => fnVCB (litEnv P code own inl ro lo ln fuel n) (o :: os) fn args B k
                | false => False })
            (fun f s h => by rw [hP]; exact litEnv_ok hown hin n f s h) (by rw [hP]; exact h1) (fun args w => by rw [hP]; exact h2 args w) (fun args B k h => by
            dsimp only at h
            split at h
            · rename_i hle
              exact ⟨hle, (litEnv P code own inl ro lo ln fuel n).loops, (litEnv P code own inl ro lo ln fuel n).cuts, ⟨h⟩⟩
            · exact h.elim)
          rw [hP] at this
          exact this
      · cases h
end

/-- A function that the model has no body of: what its row does. -/
theorem extern_holds {P : Program} {f : FuncId} {fn : Func} {e : Array Value → Sem Value} {s : Spec} (hf : P.funcs[f]? = some fn) (hname : (fn.name == "runtime.NumGoroutine") = false)
    (hb : fn.body.isNone = true) (hn : Extern.findNext fn = none) (he : Extern.find fn = some e)
    (h : ∀ (w : World) (im : Nat → Prop) (vals : Array Value) (args : List AV) (k : AV → List (Option Blk) → List Blk → Prop), vals.size = args.length → (∀ (j : Nat) (v : Value), vals[j]? = some v → Rep w im noIds v (nth args j)) → s.run args [] k →
      ∃ v r, (e vals).run P w = .ok v w ∧ k r [] [] ∧ ∀ (im : Nat → Prop), Rep w im noIds v r) (hown : s.own = [] := by rfl) : Holds P f s := by
  refine HoldsA.h ?_ hown
  intro w im vals args k o a next Q him hKc hlen hrep hrun hnext
  obtain ⟨v, r, h1, h2, h3⟩ := h w im vals args k hlen hrep hrun
  rw [run_callFunc_extern hf hname hb hn he, h1]
  show next (a.put o.dst v) w
  refine hnext v w (fun b => s.ro = false ∧ im b) noIds r [] h2 { below := RowKit.Below.refl _ _, imold := fun e b hb => ⟨e, hb⟩, imnew := fun b hb => .inl hb, dom := fun _ _ => rfl, blk := fun j b hj => by simp at hj, inj := fun _ _ _ _ _ hi => by simp [noIds] at hi, notim := fun _ _ _ hi => by simp [noIds] at hi, fresh := fun _ _ _ hi => by simp [noIds] at hi, rep := h3 _ }

/-- A sum with a carry. -/
def add64S : Spec := { ro := true, own := [], run := fun args _ k => match args with
  | [.int .u64 x, .int .u64 y, .int .u64 c] => inK .u64 x ∧ inK .u64 y ∧ (0 ≤ c ∧ c ≤ 1) ∧ ∀ s d : Int, s = (x + y + c) % 18446744073709551616 → d = (x + y + c) / 18446744073709551616 → inK .u64 s → (0 ≤ d ∧ d ≤ 1) → k (.tup [.int .u64 s, .int .u64 d]) [] []
  | _ => False }
/-- The same, of numbers that are known. -/
def add64L : Spec := { ro := true, own := [], run := fun args _ k => match args with
  | [.int .u64 x, .int .u64 y, .int .u64 c] => andB [dp (0 ≤ x ∧ x ≤ 18446744073709551615), dp (0 ≤ y ∧ y ≤ 18446744073709551615), dp (0 ≤ c ∧ c ≤ 1)] (forceI ((x + y + c) % 18446744073709551616) fun s => forceI ((x + y + c) / 18446744073709551616) fun d => k (.tup [.int .u64 s, .int .u64 d]) [] [])
  | _ => False }
theorem add64_holds {P : Program} {f : FuncId} {fn : Func} (hf : P.funcs[f]? = some fn) (hname : (fn.name == "runtime.NumGoroutine") = false)
    (hb : fn.body.isNone = true) (hn : Extern.findNext fn = none) (he : Extern.find fn = some add64Entry) : Holds P f add64S := by
  refine extern_holds hf hname hb hn he fun w im vals args k hlen hrep hrun => ?_
  unfold add64S at hrun
  dsimp only at hrun
  split at hrun
  · rename_i x y c
    obtain ⟨hx, hy, hc, hk⟩ := hrun
    obtain ⟨u, v, t, rfl⟩ : ∃ u v t, vals = #[u, v, t] := by
      match vals, hlen with
      | ⟨[u, v, t]⟩, _ => exact ⟨u, v, t, rfl⟩
    obtain ⟨rfl, -⟩ := (hrep 0 u rfl).inv_int
    obtain ⟨rfl, -⟩ := (hrep 1 v rfl).inv_int
    obtain ⟨rfl, -⟩ := (hrep 2 t rfl).inv_int
    have hx : 0 ≤ x ∧ x ≤ 18446744073709551615 := hx
    have hy : 0 ≤ y ∧ y ≤ 18446744073709551615 := hy
    have h1 : 0 ≤ (x + y + c) % 18446744073709551616 ∧ (x + y + c) % 18446744073709551616 ≤ 18446744073709551615 := by omega
    have h2 : 0 ≤ (x + y + c) / 18446744073709551616 ∧ (x + y + c) / 18446744073709551616 ≤ 1 := by omega
    refine ⟨_, _, run_add64 x y c hx.1 hy.1 hc.1 hc.2 w, hk _ _ rfl rfl h1 h2, fun im => .tup rfl fun j v hj => ?_⟩
    match j, hj with
    | 0, hj => simp at hj; subst hj; exact .int ⟨h1.1, h1.2⟩
    | 1, hj => simp at hj; subst hj; exact .int ⟨h2.1, by show _ ≤ (18446744073709551615 : Int); omega⟩
    | _ + 2, hj => simp at hj
  · exact hrun.elim
theorem add64_lit {P : Program} {f : FuncId} (h : Holds P f add64S) : Holds P f add64L := by
  refine HoldsA.h ?_ rfl
  intro w im vals args k o a next Q him hKc hlen hrep hrun hnext
  refine h.a rfl w im vals args k o a next Q him hKc hlen hrep ?_ hnext
  unfold add64L at hrun
  dsimp only at hrun
  split at hrun
  · rename_i x y c
    obtain ⟨h1, h2⟩ := andE_ok (lit := true) (l := [dp (0 ≤ x ∧ x ≤ 18446744073709551615), dp (0 ≤ y ∧ y ≤ 18446744073709551615), dp (0 ≤ c ∧ c ≤ 1)]) hrun
    obtain ⟨b1, b2, b3, -⟩ := h1
    have h3 := forceI_ok (k := fun d => k (.tup [.int .u64 ((x + y + c) % 18446744073709551616), .int .u64 d]) [] []) (forceI_ok (k := fun s => forceI ((x + y + c) / 18446744073709551616) fun d => k (.tup [.int .u64 s, .int .u64 d]) [] []) h2)
    exact ⟨b1, b2, b3, fun s d hs hd _ _ => by subst hs; subst hd; exact h3⟩
  · exact hrun.elim
end Go.Eng
