import Derived.Test.YtcdflgfhkohldaaEngR
import Derived.Laws.Externs
namespace Go.Eng
open Go
set_option linter.unusedVariables false
def litSpec (own : FuncId → Option Spec) (inl : FuncId → Option Func) (ro : FuncId → Bool) (lo : FuncId → List Bool) (ln : FuncId → Nat → Bool) (env : Env) (f : FuncId) : Option Spec := match own f with
  | some s => some s
  | none => match inl f with
    | some fn => match lo f with
      | [] => some { ro := ro f, own := [], run := fun args _ k => match Nat.ble args.length fn.ntmps with
        | true => fnVC env (ro f) fn args k
        | false => False }
      | o :: os => some { ro := false, own := o :: os, lend := ln f, run := fun args B k => match Nat.ble args.length fn.ntmps with
        | true => fnVCB env (o :: os) fn args B k
        | false => False }
    | none => none
def litEnv (P : Program) (code : TypeId → Nat) (own : FuncId → Option Spec) (inl : FuncId → Option Func) (ro : FuncId → Bool) (lo : FuncId → List Bool) (ln : FuncId → Nat → Bool) (fuel : Nat) : Nat → Env
  | 0 => ⟨P, code, own, fun _ _ => none, fun _ _ => none, [], true, fuel, 0, fun _ => 0, (0, none)⟩
  | n + 1 => ⟨P, code, litSpec own inl ro lo ln (litEnv P code own inl ro lo ln fuel n), fun _ _ => none, fun _ _ => none, [], true, fuel, 0, fun _ => 0, (0, none)⟩
section
variable {P : Program} {code : TypeId → Nat} {own : FuncId → Option Spec} {inl : FuncId → Option Func} {ro : FuncId → Bool} {lo : FuncId → List Bool} {ln : FuncId → Nat → Bool} {fuel : Nat}
theorem litEnv_P (n : Nat) : (litEnv P code own inl ro lo ln fuel n).P = P := by cases n <;> rfl
theorem litEnv_yw (n : Nat) : (litEnv P code own inl ro lo ln fuel n).yw = (0, none) := by cases n <;> rfl
theorem litEnv_ok (hown : ∀ f s, own f = some s → Holds P f s)
    (hin : ∀ f fn, inl f = some fn → P.funcs[f]? = some fn ∧ ∀ args w, (callFunc f args).run P w = .ok (.enter f args) w) : ∀ n f s, (litEnv P code own inl ro lo ln fuel n).spec f = some s → Holds P f s
  | 0, f, s, h => hown f s h
  | n + 1, f, s, h => by
    simp only [litEnv, litSpec] at h
    split at h
    · rename_i s' hs
      simp only [Option.some.injEq] at h; subst h
      exact hown f _ hs
    · split at h
      · rename_i fn hfn
        obtain ⟨h1, h2⟩ := hin f fn hfn
        have hP : (litEnv P code own inl ro lo ln fuel n).P = P := litEnv_P n
        split at h
        · simp only [Option.some.injEq] at h; subst h
          have := fn_sound (hyw := litEnv_yw n) (env := litEnv P code own inl ro lo ln fuel n) (f := f) (fn := fn)
            (s := { ro := ro f, own := [], run := fun args _ k => match Nat.ble args.length fn.ntmps with
                | true => fnVC (litEnv P code own inl ro lo ln fuel n) (ro f) fn args k
                | false => False })
            (fun f s h => by rw [hP]; exact litEnv_ok hown hin n f s h) (by rw [hP]; exact h1) (fun args w => by rw [hP]; exact h2 args w) (fun args k h => by
            dsimp only at h
            split at h
            · rename_i hle
              exact ⟨hle, (litEnv P code own inl ro lo ln fuel n).loops, (litEnv P code own inl ro lo ln fuel n).cuts, ⟨h⟩⟩
            · exact h.elim)
          rw [hP] at this
          exact this
        · rename_i o os ho
          simp only [Option.some.injEq] at h; subst h
          have := fn_soundB (hyw := litEnv_yw n) (env := litEnv P code own inl ro lo ln fuel n) (f := f) (fn := fn)
            (s := { ro := false, own := o :: os, lend := ln f, run := fun args B k => match Nat.ble args.length fn.ntmps with
                | true => fnVCB (litEnv P code own inl ro lo ln fuel n) (o :: os) fn args B k
                | false => False })
            (fun f s h => by rw [hP]; exact litEnv_ok hown hin n f s h) (by rw [hP]; exact h1) (fun args w => by rw [hP]; exact h2 args w) (fun args B k h => by
            dsimp only at h
            split at h
            · rename_i hle
              exact ⟨hle, (litEnv P code own inl ro lo ln fuel n).loops, (litEnv P code own inl ro lo ln fuel n).cuts, ⟨h⟩⟩
            · exact h.elim)
          rw [hP] at this
          exact this
      · cases h
end
theorem extern_holds {P : Program} {f : FuncId} {fn : Func} {e : Array Value → Sem Value} {s : Spec} (hf : P.funcs[f]? = some fn) (hname : (fn.name == "runtime.NumGoroutine") = false)
    (hb : fn.body.isNone = true) (hn : Extern.findNext fn = none) (he : Extern.find fn = some e)
    (h : ∀ (w : World) (im : Nat → Prop) (vals : Array Value) (args : List AV) (k : AV → List (Option Blk) → List Blk → Prop), vals.size = args.length → (∀ (j : Nat) (v : Value), vals[j]? = some v → Rep w im noIds v (nth args j)) → s.run args [] k →
      ∃ v r, (e vals).run P w = .ok v w ∧ k r [] [] ∧ ∀ (im : Nat → Prop), Rep w im noIds v r) (hown : s.own = [] := by rfl) : Holds P f s := by
  refine HoldsA.h ?_ hown
  intro w im vals args k o a next Q him hKc hlen hrep hrun hnext
  obtain ⟨v, r, h1, h2, h3⟩ := h w im vals args k hlen hrep hrun
  rw [run_callFunc_extern hf hname hb hn he, h1]
  show next (a.put o.dst v) w
  refine hnext v w (fun b => s.ro = false ∧ im b) noIds r [] h2 { below := RowKit.Below.refl _ _, imold := fun e b hb => ⟨e, hb⟩, imnew := fun b hb => .inl hb, dom := fun _ _ => rfl, blk := fun j b hj => by simp at hj, inj := fun _ _ _ _ _ hi => by simp [noIds] at hi, notim := fun _ _ _ hi => by simp [noIds] at hi, fresh := fun _ _ _ hi => by simp [noIds] at hi, rep := h3 _ }
def add64S : Spec := { ro := true, own := [], run := fun args _ k => match args with
  | [.int .u64 x, .int .u64 y, .int .u64 c] => inK .u64 x ∧ inK .u64 y ∧ (0 ≤ c ∧ c ≤ 1) ∧ ∀ s d : Int, s = (x + y + c) % 18446744073709551616 → d = (x + y + c) / 18446744073709551616 → inK .u64 s → (0 ≤ d ∧ d ≤ 1) → k (.tup [.int .u64 s, .int .u64 d]) [] []
  | _ => False }
def add64L : Spec := { ro := true, own := [], run := fun args _ k => match args with
  | [.int .u64 x, .int .u64 y, .int .u64 c] => andB [dp (0 ≤ x ∧ x ≤ 18446744073709551615), dp (0 ≤ y ∧ y ≤ 18446744073709551615), dp (0 ≤ c ∧ c ≤ 1)] (forceI ((x + y + c) % 18446744073709551616) fun s => forceI ((x + y + c) / 18446744073709551616) fun d => k (.tup [.int .u64 s, .int .u64 d]) [] [])
  | _ => False }
theorem add64_holds {P : Program} {f : FuncId} {fn : Func} (hf : P.funcs[f]? = some fn) (hname : (fn.name == "runtime.NumGoroutine") = false)
    (hb : fn.body.isNone = true) (hn : Extern.findNext fn = none) (he : Extern.find fn = some add64Entry) : Holds P f add64S := by
  refine extern_holds hf hname hb hn he fun w im vals args k hlen hrep hrun => ?_
  unfold add64S at hrun
  dsimp only at hrun
  split at hrun
  · rename_i x y c
    obtain ⟨hx, hy, hc, hk⟩ := hrun
    obtain ⟨u, v, t, rfl⟩ : ∃ u v t, vals = #[u, v, t] := by
      match vals, hlen with
      | ⟨[u, v, t]⟩, _ => exact ⟨u, v, t, rfl⟩
    obtain ⟨rfl, -⟩ := (hrep 0 u rfl).inv_int
    obtain ⟨rfl, -⟩ := (hrep 1 v rfl).inv_int
    obtain ⟨rfl, -⟩ := (hrep 2 t rfl).inv_int
    have hx : 0 ≤ x ∧ x ≤ 18446744073709551615 := hx
    have hy : 0 ≤ y ∧ y ≤ 18446744073709551615 := hy
    have h1 : 0 ≤ (x + y + c) % 18446744073709551616 ∧ (x + y + c) % 18446744073709551616 ≤ 18446744073709551615 := by omega
    have h2 : 0 ≤ (x + y + c) / 18446744073709551616 ∧ (x + y + c) / 18446744073709551616 ≤ 1 := by omega
    refine ⟨_, _, run_add64 x y c hx.1 hy.1 hc.1 hc.2 w, hk _ _ rfl rfl h1 h2, fun im => .tup rfl fun j v hj => ?_⟩
    match j, hj with
    | 0, hj => simp at hj; subst hj; exact .int ⟨h1.1, h1.2⟩
    | 1, hj => simp at hj; subst hj; exact .int ⟨h2.1, by show _ ≤ (18446744073709551615 : Int); omega⟩
    | _ + 2, hj => simp at hj
  · exact hrun.elim
theorem add64_lit {P : Program} {f : FuncId} (h : Holds P f add64S) : Holds P f add64L := by
  refine HoldsA.h ?_ rfl
  intro w im vals args k o a next Q him hKc hlen hrep hrun hnext
  refine h.a rfl w im vals args k o a next Q him hKc hlen hrep ?_ hnext
  unfold add64L at hrun
  dsimp only at hrun
  split at hrun
  · rename_i x y c
    obtain ⟨h1, h2⟩ := andE_ok (lit := true) (l := [dp (0 ≤ x ∧ x ≤ 18446744073709551615), dp (0 ≤ y ∧ y ≤ 18446744073709551615), dp (0 ≤ c ∧ c ≤ 1)]) hrun
    obtain ⟨b1, b2, b3, -⟩ := h1
    have h3 := forceI_ok (k := fun d => k (.tup [.int .u64 ((x + y + c) % 18446744073709551616), .int .u64 d]) [] []) (forceI_ok (k := fun s => forceI ((x + y + c) / 18446744073709551616) fun d => k (.tup [.int .u64 s, .int .u64 d]) [] []) h2)
    exact ⟨b1, b2, b3, fun s d hs hd _ _ => by subst hs; subst hd; exact h3⟩
  · exact hrun.elim
end Go.Eng
namespace Go.Eng
open Go
set_option linter.unusedVariables false
abbrev Tab := List (Nat × Spec)
def look : Tab → FuncId → Option Spec
  | [], _ => none
  | (j, s) :: r, f => match Nat.beq j f with
    | true => some s
    | false => look r f
def TabOk (P : Program) : Tab → Prop
  | [] => True
  | (j, s) :: r => Holds P j s ∧ TabOk P r
theorem tab_ok {P : Program} : ∀ {T : Tab}, TabOk P T → ∀ f s, look T f = some s → Holds P f s
  | [], _, f, s, h => by cases h
  | (j, t) :: r, hT, f, s, h => by
    unfold look at h
    split at h
    · rename_i e
      have := nbeq e
      subst this
      cases h
      exact hT.1
    · exact tab_ok hT.2 f s h
def mkE (P : Program) (code : TypeId → Nat) (T : Tab) : Env := ⟨P, code, look T, fun _ _ => none, fun _ _ => none, [], false, 0, 0, fun _ => 0, (0, none)⟩
def s1 (f : Int → Int) (B : Int → Prop) : Spec := { ro := true, own := [], run := fun args _ k => match args with
  | [.int .i64 a] => inK .i64 a ∧ ∀ r : Int, r = f a → B r → k (.int .i64 r) [] []
  | _ => False }
def s2 (f : Int → Int → Int) (B : Int → Prop) : Spec := { ro := true, own := [], run := fun args _ k => match args with
  | [.int .i64 a, .int .i64 b] => inK .i64 a ∧ inK .i64 b ∧ ∀ r : Int, r = f a b → B r → k (.int .i64 r) [] []
  | _ => False }
def s3 (f : Int → Int → Int → Int) (B : Int → Prop) : Spec := { ro := true, own := [], run := fun args _ k => match args with
  | [.int .i64 a, .int .i64 b, .int .i64 c] => inK .i64 a ∧ inK .i64 b ∧ inK .i64 c ∧ ∀ r : Int, r = f a b c → B r → k (.int .i64 r) [] []
  | _ => False }
def trueS : Spec := { ro := true, own := [], run := fun args _ k => match args with
  | [] => k (.bool true) [] []
  | _ => False }
end Go.Eng
namespace Go.Eng
open Go
theorem k_true {k : AV → List (Option Blk) → List Blk → Prop} {b : Bool} (hk : k (.bool true) [] []) (h : b = true) : k (.bool b) [] [] := h ▸ hk
def law1 (κ : IntKind) : Spec := { ro := true, own := [], run := fun args _ k => match args with
  | [.int κ' a] => κ' = κ ∧ inK κ a ∧ k (.bool true) [] []
  | _ => False }
def lawI2 : Spec := { ro := true, own := [], run := fun args _ k => match args with
  | [.int .i64 a, .int .i64 b] => inK .i64 a ∧ inK .i64 b ∧ k (.bool true) [] []
  | _ => False }
def lawI3 : Spec := { ro := true, own := [], run := fun args _ k => match args with
  | [.int .i64 a, .int .i64 b, .int .i64 c] => inK .i64 a ∧ inK .i64 b ∧ inK .i64 c ∧ k (.bool true) [] []
  | _ => False }
def lawI4 : Spec := { ro := true, own := [], run := fun args _ k => match args with
  | [.int .i64 a, .int .i64 b, .int .i64 c, .int .i64 d] => inK .i64 a ∧ inK .i64 b ∧ inK .i64 c ∧ inK .i64 d ∧ k (.bool true) [] []
  | _ => False }
def lawI7 : Spec := { ro := true, own := [], run := fun args _ k => match args with
  | [.int .i64 a, .int .i64 b, .int .i64 c, .int .i64 d, .int .i64 e, .int .i64 f, .int .i64 g] => inK .i64 a ∧ inK .i64 b ∧ inK .i64 c ∧ inK .i64 d ∧ inK .i64 e ∧ inK .i64 f ∧ inK .i64 g ∧ k (.bool true) [] []
  | _ => False }
end Go.Eng
namespace Go.Eng
open Go
set_option linter.unusedVariables false
def fzK (k : AV → List (Option Blk) → List Blk → Prop) (r : AV) (bs : List (Option Blk)) (F : List Blk) : Prop := match F with
  | [] => k r [] []
  | [.row c xs] => k (frz 0 c xs r) [] []
  | _ => False
theorem Holds.fz {P : Program} {f : FuncId} {s t : Spec} (h : Holds P f s) (hro : s.ro = false) (hro2 : t.ro = false) (hown : s.own = []) (hown2 : t.own = []) (ht : ∀ args k, t.run args [] k → s.run args [] (fzK k)) : Holds P f t := by
  refine HoldsA.h ?_ hown2
  intro w im vals args k o a next Q him hKc hlen hrep hrun hnext
  refine h.a hown w im vals args (fzK k) o a next Q him hKc hlen hrep (ht args k hrun) fun v w' im' ρ' r F hk hres => ?_
  unfold fzK at hk
  split at hk
  · rw [hro] at hres
    refine hnext v w' im' ρ' r [] hk ?_
    rw [hro2]; exact hres
  · rename_i F c xs
    rw [hro] at hres
    obtain ⟨ob, h1, hB⟩ := hres.blk 0 _ rfl
    have hB0 : BRep w' im' noIds ob (.row c xs) := hB
    refine hnext v w' (fun b => im' b ∨ ob.1 = some b) noIds _ [] hk ?_
    rw [hro2]
    exact { below := hres.below
            imold := fun e b hb => .inl (hres.imold e b hb)
            imnew := fun b hb => by
              rcases hb with hb | hb
              · exact hres.imnew b hb
              · obtain ⟨o1, o2⟩ := ob
                dsimp only at hb
                subst hb
                exact .inr ⟨hres.fresh 0 b _ h1, hB.lt rfl⟩
            dom := fun _ _ => rfl
            blk := fun j b hj => by simp at hj
            inj := fun _ _ _ _ _ hi => by simp [noIds] at hi
            notim := fun _ _ _ hi => by simp [noIds] at hi
            fresh := fun _ _ _ hi => by simp [noIds] at hi
            rep := hres.rep.frz 0 hB0 (fun _ h => .inl h) (fun _ h => .inr h) (fun x hx => by rw [h1] at hx; exact (Option.some.inj hx).symm) (ρ' := noIds) (fun j x hj hx => by
              have : ρ' j = none := hres.dom j (by
                cases j with
                | zero => exact absurd rfl hj
                | succ j => rfl)
              rw [this] at hx; cases hx) }
  · exact hk.elim
end Go.Eng
namespace Go.Eng
open Go
set_option linter.unusedVariables false
def nlK (c : Nat) (k : AV → List (Option Blk) → List Blk → Prop) (r : AV) (bs : List (Option Blk)) (F : List Blk) : Prop := match r, F with
  | .nilsl, [] => k (.row c 0 0 0) [] [.row c []]
  | r, F => k r [] F
theorem Holds.nl {P : Program} {f : FuncId} {s t : Spec} (c : Nat) (h : Holds P f s) (hro : s.ro = t.ro) (hown : s.own = []) (hown2 : t.own = []) (ht : ∀ args k, t.run args [] k → s.run args [] (nlK c k)) : Holds P f t := by
  refine HoldsA.h ?_ hown2
  intro w im vals args k o a next Q him hKc hlen hrep hrun hnext
  refine h.a hown w im vals args (nlK c k) o a next Q him hKc hlen hrep (ht args k hrun) fun v w' im' ρ' r F hk hres => ?_
  rw [hro] at hres
  unfold nlK at hk
  split at hk
  · refine hnext v w' im' (fun i => if i = 0 then some (none, 0) else none) _ _ hk ?_
    have hv := hres.rep.inv_nilsl
    exact { below := hres.below, imold := hres.imold, imnew := hres.imnew
            dom := fun j hj => by
              cases j with
              | zero => simp at hj
              | succ j => simp
            blk := fun j b hj => by
              cases j with
              | zero =>
                simp only [List.getElem?_cons_zero, Option.some.injEq] at hj
                subst hj
                exact ⟨(none, 0), by simp, rfl, .inl ⟨rfl, rfl⟩⟩
              | succ j => simp at hj
            inj := fun i j b m m' hi hj => by
              split at hi <;> simp at hi
            notim := fun i b m hi => by split at hi <;> simp at hi
            fresh := fun i b m hi => by split at hi <;> simp at hi
            rep := by rw [hv]; exact .row0 (by simp) }
  · exact hnext v w' im' ρ' _ _ hk hres
end Go.Eng
namespace Go.Eng
open Go
set_option linter.unusedVariables false
def nlK2 (c : Nat) (k : AV → List (Option Blk) → List Blk → Prop) (r : AV) (bs : List (Option Blk)) (F : List Blk) : Prop := match r, F with
  | .tup [.nilsl, x], [] => k (.tup [.row c 0 0 0, x]) [] [.row c []]
  | r, F => k r [] F
theorem Holds.nl2 {P : Program} {f : FuncId} {s t : Spec} (c : Nat) (h : Holds P f s) (hro : s.ro = t.ro) (hown : s.own = []) (hown2 : t.own = []) (ht : ∀ args k, t.run args [] k → s.run args [] (nlK2 c k)) : Holds P f t := by
  refine HoldsA.h ?_ hown2
  intro w im vals args k o a next Q him hKc hlen hrep hrun hnext
  refine h.a hown w im vals args (nlK2 c k) o a next Q him hKc hlen hrep (ht args k hrun) fun v w' im' ρ' r F hk hres => ?_
  rw [hro] at hres
  unfold nlK2 at hk
  split at hk
  · rename_i x
    refine hnext v w' im' (fun i => if i = 0 then some (none, 0) else none) _ _ hk ?_
    obtain ⟨vs, rfl, h1, h2⟩ := hres.rep.inv_tup
    have hno : ∀ i, ρ' i = none := fun i => hres.dom i (by simp)
    have up : ∀ {v a}, Rep w' im' ρ' v a → Rep w' im' (fun i => if i = 0 then some (none, 0) else none) v a := fun h => h.stable (fun _ _ => rfl) (fun _ h => h) (fun i x hx => by rw [hno] at hx; cases hx) (fun _ _ _ _ => rfl)
    exact { below := hres.below, imold := hres.imold, imnew := hres.imnew
            dom := fun j hj => by
              cases j with
              | zero => simp at hj
              | succ j => simp
            blk := fun j b hj => by
              cases j with
              | zero =>
                simp only [List.getElem?_cons_zero, Option.some.injEq] at hj
                subst hj
                exact ⟨(none, 0), by simp, rfl, .inl ⟨rfl, rfl⟩⟩
              | succ j => simp at hj
            inj := fun i j b m m' hi hj => by
              split at hi <;> simp at hi
            notim := fun i b m hi => by split at hi <;> simp at hi
            fresh := fun i b m hi => by split at hi <;> simp at hi
            rep := .tup (by simpa using h1) fun j u hu => by
              have h3 := h2 j u hu
              match j with
              | 0 =>
                have h3 : Rep w' im' ρ' u .nilsl := h3
                rw [h3.inv_nilsl]; exact .row0 (by simp)
              | 1 => exact up h3
              | j + 2 => exact .dead }
  · exact hnext v w' im' ρ' _ _ hk hres
end Go.Eng
