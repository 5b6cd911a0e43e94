import Derived.Test.YtpkfadgennejnaaEngV
namespace Go.Eng
open Go
set_option linter.unusedVariables false

/-- Functions' specs, by number. -/
abbrev Tab := List (Nat × Spec)
def look : Tab → FuncId → Option Spec
  | [], _ => none
  | (j, s) :: r, f => match Nat.beq j f with
    | true => some s
    | false => look r f
def TabOk (P : Program) : Tab → Prop
  | [] => True
  | (j, s) :: r => Holds P j s ∧ TabOk P r
theorem tab_ok {P : Program} : ∀ {T : Tab}, TabOk P T → ∀ f s, look T f = some s → Holds P f s
  | [], _, f, s, h => by cases h
  | (j, t) :: r, hT, f, s, h => by
    unfold look at h
    split at h
    · rename_i e
      have := nbeq e
      subst this
      cases h
      exact hT.1
    · exact tab_ok hT.2 f s h
def mkE (P : Program) (code : TypeId → Nat) (T : Tab) : Env := ⟨P, code, look T, fun _ _ => none, fun _ _ => none, [], false, 0, 0, fun _ => 0, (0, none)⟩

/-- Numbers of 64 bits with a sign in, one out. -/
def s1 (f : Int → Int) (B : Int → Prop) : Spec := { ro := true, own := [], run := fun args _ k => match args with
  | [.int .i64 a] => inK .i64 a ∧ ∀ r : Int, r = f a → B r → k (.int .i64 r) [] []
  | _ => False }
def s2 (f : Int → Int → Int) (B : Int → Prop) : Spec := { ro := true, own := [], run := fun args _ k => match args with
  | [.int .i64 a, .int .i64 b] => inK .i64 a ∧ inK .i64 b ∧ ∀ r : Int, r = f a b → B r → k (.int .i64 r) [] []
  | _ => False }
def s3 (f : Int → Int → Int → Int) (B : Int → Prop) : Spec := { ro := true, own := [], run := fun args _ k => match args with
  | [.int .i64 a, .int .i64 b, .int .i64 c] => inK .i64 a ∧ inK .i64 b ∧ inK .i64 c ∧ ∀ r : Int, r = f a b c → B r → k (.int .i64 r) [] []
  | _ => False }
/-- A function of no arguments that answers true. -/
def trueS : Spec := { ro := true, own := [], run := fun args _ k => match args with
  | [] => k (.bool true) [] []
  | _ => False }
end Go.Eng
namespace Go.Eng
open Go
theorem k_true {k : AV → List (Option Blk) → List Blk → Prop} {b : Bool} (hk : k (.bool true) [] []) (h : b = true) : k (.bool b) [] [] := h ▸ hk
/-- A statement's function of numbers. -/
def law1 (κ : IntKind) : Spec := { ro := true, own := [], run := fun args _ k => match args with
  | [.int κ' a] => κ' = κ ∧ inK κ a ∧ k (.bool true) [] []
  | _ => False }
def lawI2 : Spec := { ro := true, own := [], run := fun args _ k => match args with
  | [.int .i64 a, .int .i64 b] => inK .i64 a ∧ inK .i64 b ∧ k (.bool true) [] []
  | _ => False }
def lawI3 : Spec := { ro := true, own := [], run := fun args _ k => match args with
  | [.int .i64 a, .int .i64 b, .int .i64 c] => inK .i64 a ∧ inK .i64 b ∧ inK .i64 c ∧ k (.bool true) [] []
  | _ => False }
def lawI4 : Spec := { ro := true, own := [], run := fun args _ k => match args with
  | [.int .i64 a, .int .i64 b, .int .i64 c, .int .i64 d] => inK .i64 a ∧ inK .i64 b ∧ inK .i64 c ∧ inK .i64 d ∧ k (.bool true) [] []
  | _ => False }
def lawI7 : Spec := { ro := true, own := [], run := fun args _ k => match args with
  | [.int .i64 a, .int .i64 b, .int .i64 c, .int .i64 d, .int .i64 e, .int .i64 f, .int .i64 g] => inK .i64 a ∧ inK .i64 b ∧ inK .i64 c ∧ inK .i64 d ∧ inK .i64 e ∧ inK .i64 f ∧ inK .i64 g ∧ k (.bool true) [] []
  | _ => False }
end Go.Eng
namespace Go.Eng
open Go
set_option linter.unusedVariables false
/-- What a function makes anew is written no more. -/
def fzK (k : AV → List (Option Blk) → List Blk → Prop) (r : AV) (bs : List (Option Blk)) (F : List Blk) : Prop := match F with
  | [] => k r [] []
  | [.row c xs] => k (frz 0 c xs r) [] []
  | _ => False
theorem Holds.fz {P : Program} {f : FuncId} {s t : Spec} (h : Holds P f s) (hro : s.ro = false) (hro2 : t.ro = false) (hown : s.own = []) (hown2 : t.own = []) (ht : ∀ args k, t.run args [] k → s.run args [] (fzK k)) : Holds P f t := by
  refine HoldsA.h ?_ hown2
  intro w im vals args k o a next Q him hKc hlen hrep hrun hnext
  refine h.a hown w im vals args (fzK k) o a next Q him hKc hlen hrep (ht args k hrun) fun v w' im' ρ' r F hk hres => ?_
  unfold fzK at hk
  split at hk
  · rw [hro] at hres
    refine hnext v w' im' ρ' r [] hk ?_
    rw [hro2]; exact hres
  · rename_i F c xs
    rw [hro] at hres
    obtain ⟨ob, h1, hB⟩ := hres.blk 0 _ rfl
    have hB0 : BRep w' im' noIds ob (.row c xs) := hB
    refine hnext v w' (fun b => im' b ∨ ob.1 = some b) noIds _ [] hk ?_
    rw [hro2]
    exact { below := hres.below
            imold := fun e b hb => .inl (hres.imold e b hb)
            imnew := fun b hb => by
              rcases hb with hb | hb
              · exact hres.imnew b hb
              · obtain ⟨o1, o2⟩ := ob
                dsimp only at hb
                subst hb
                exact .inr ⟨hres.fresh 0 b _ h1, hB.lt rfl⟩
            dom := fun _ _ => rfl
            blk := fun j b hj => by simp at hj
            inj := fun _ _ _ _ _ hi => by simp [noIds] at hi
            notim := fun _ _ _ hi => by simp [noIds] at hi
            fresh := fun _ _ _ hi => by simp [noIds] at hi
            rep := hres.rep.frz 0 hB0 (fun _ h => .inl h) (fun _ h => .inr h) (fun x hx => by rw [h1] at hx; exact (Option.some.inj hx).symm) (ρ' := noIds) (fun j x hj hx => by
              have : ρ' j = none := hres.dom j (by
                cases j with
                | zero => exact absurd rfl hj
                | succ j => rfl)
              rw [this] at hx; cases hx) }
  · exact hk.elim
end Go.Eng
namespace Go.Eng
open Go
set_option linter.unusedVariables false
/-- A nil slice, as a row of its own that is empty. -/
def nlK (c : Nat) (k : AV → List (Option Blk) → List Blk → Prop) (r : AV) (bs : List (Option Blk)) (F : List Blk) : Prop := match r, F with
  | .nilsl, [] => k (.row c 0 0 0) [] [.row c []]
  | r, F => k r [] F
theorem Holds.nl {P : Program} {f : FuncId} {s t : Spec} (c : Nat) (h : Holds P f s) (hro : s.ro = t.ro) (hown : s.own = []) (hown2 : t.own = []) (ht : ∀ args k, t.run args [] k → s.run args [] (nlK c k)) : Holds P f t := by
  refine HoldsA.h ?_ hown2
  intro w im vals args k o a next Q him hKc hlen hrep hrun hnext
  refine h.a hown w im vals args (nlK c k) o a next Q him hKc hlen hrep (ht args k hrun) fun v w' im' ρ' r F hk hres => ?_
  rw [hro] at hres
  unfold nlK at hk
  split at hk
  · refine hnext v w' im' (fun i => if i = 0 then some (none, 0) else none) _ _ hk ?_
    have hv := hres.rep.inv_nilsl
    exact { below := hres.below, imold := hres.imold, imnew := hres.imnew
            dom := fun j hj => by
              cases j with
              | zero => simp at hj
              | succ j => simp
            blk := fun j b hj => by
              cases j with
              | zero =>
                simp only [List.getElem?_cons_zero, Option.some.injEq] at hj
                subst hj
                exact ⟨(none, 0), by simp, rfl, .inl ⟨rfl, rfl⟩⟩
              | succ j => simp at hj
            inj := fun i j b m m' hi hj => by
              split at hi <;> simp at hi
            notim := fun i b m hi => by split at hi <;> simp at hi
            fresh := fun i b m hi => by split at hi <;> simp at hi
            rep := by rw [hv]; exact .row0 (by simp) }
  · exact hnext v w' im' ρ' _ _ hk hres
end Go.Eng
namespace Go.Eng
open Go
set_option linter.unusedVariables false
/-- The same, of the first of two results. -/
def nlK2 (c : Nat) (k : AV → List (Option Blk) → List Blk → Prop) (r : AV) (bs : List (Option Blk)) (F : List Blk) : Prop := match r, F with
  | .tup [.nilsl, x], [] => k (.tup [.row c 0 0 0, x]) [] [.row c []]
  | r, F => k r [] F
theorem Holds.nl2 {P : Program} {f : FuncId} {s t : Spec} (c : Nat) (h : Holds P f s) (hro : s.ro = t.ro) (hown : s.own = []) (hown2 : t.own = []) (ht : ∀ args k, t.run args [] k → s.run args [] (nlK2 c k)) : Holds P f t := by
  refine HoldsA.h ?_ hown2
  intro w im vals args k o a next Q him hKc hlen hrep hrun hnext
  refine h.a hown w im vals args (nlK2 c k) o a next Q him hKc hlen hrep (ht args k hrun) fun v w' im' ρ' r F hk hres => ?_
  rw [hro] at hres
  unfold nlK2 at hk
  split at hk
  · rename_i x
    refine hnext v w' im' (fun i => if i = 0 then some (none, 0) else none) _ _ hk ?_
    obtain ⟨vs, rfl, h1, h2⟩ := hres.rep.inv_tup
    have hno : ∀ i, ρ' i = none := fun i => hres.dom i (by simp)
    have up : ∀ {v a}, Rep w' im' ρ' v a → Rep w' im' (fun i => if i = 0 then some (none, 0) else none) v a := fun h => h.stable (fun _ _ => rfl) (fun _ h => h) (fun i x hx => by rw [hno] at hx; cases hx) (fun _ _ _ _ => rfl)
    exact { below := hres.below, imold := hres.imold, imnew := hres.imnew
            dom := fun j hj => by
              cases j with
              | zero => simp at hj
              | succ j => simp
            blk := fun j b hj => by
              cases j with
              | zero =>
                simp only [List.getElem?_cons_zero, Option.some.injEq] at hj
                subst hj
                exact ⟨(none, 0), by simp, rfl, .inl ⟨rfl, rfl⟩⟩
              | succ j => simp at hj
            inj := fun i j b m m' hi hj => by
              split at hi <;> simp at hi
            notim := fun i b m hi => by split at hi <;> simp at hi
            fresh := fun i b m hi => by split at hi <;> simp at hi
            rep := .tup (by simpa using h1) fun j u hu => by
              have h3 := h2 j u hu
              match j with
              | 0 =>
                have h3 : Rep w' im' ρ' u .nilsl := h3
                rw [h3.inv_nilsl]; exact .row0 (by simp)
              | 1 => exact up h3
              | j + 2 => exact .dead }
  · exact hnext v w' im' ρ' _ _ hk hres
end Go.Eng
