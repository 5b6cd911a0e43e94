import Derived.Test.YtcdflgfhkohldaaEngY
namespace Go.Eng
open Go
set_option linter.unusedVariables false
def nlGK (c : Nat) (g : Nat → AV → Option AV) (k : AV → List (Option Blk) → List Blk → Prop) (r : AV) (bs : List (Option Blk)) (F : List Blk) : Prop := match g F.length r with
  | some r' => k r' [] (F ++ [.row c []])
  | none => k r [] F
theorem Holds.nlG {P : Program} {f : FuncId} {s t : Spec} (c : Nat) (g : Nat → AV → Option AV) (hg : ∀ (w : World) (im : Nat → Prop) (ρ : Ids) (v : Value) (n : Nat) (r r' : AV), g n r = some r' → ρ n = some (none, 0) → Rep w im ρ v r → Rep w im ρ v r') (h : Holds P f s) (hro : s.ro = t.ro) (hown : s.own = []) (hown2 : t.own = []) (ht : ∀ args k, t.run args [] k → s.run args [] (nlGK c g k)) : Holds P f t := by
  refine HoldsA.h ?_ hown2
  intro w im vals args k o a next Q him hKc hlen hrep hrun hnext
  refine h.a hown w im vals args (nlGK c g k) o a next Q him hKc hlen hrep (ht args k hrun) fun v w' im' ρ' r F hk hres => ?_
  rw [hro] at hres
  unfold nlGK at hk
  split at hk
  · rename_i r' hp
    have hno : ρ' F.length = none := hres.dom F.length (List.getElem?_eq_none (Nat.le_refl _))
    refine hnext v w' im' (fun i => if i = F.length then some (none, 0) else ρ' i) _ _ hk ?_
    have mono : ∀ i x, ρ' i = some x → (if i = F.length then some (none, 0) else ρ' i) = some x := fun i x hx => by
      by_cases e : i = F.length
      · rw [e, hno] at hx; cases hx
      · rw [if_neg e]; exact hx
    have up : ∀ {v a}, Rep w' im' ρ' v a → Rep w' im' (fun i => if i = F.length then some (none, 0) else ρ' i) v a := fun h => h.stable (fun _ _ => rfl) (fun _ h => h) mono (fun _ _ _ _ => rfl)
    have back : ∀ i b m, (if i = F.length then some ((none : Option Nat), 0) else ρ' i) = some (some b, m) → ρ' i = some (some b, m) := fun i b m hi => by
      by_cases e : i = F.length
      · rw [if_pos e] at hi; simp at hi
      · rw [if_neg e] at hi; exact hi
    exact { below := hres.below, imold := hres.imold, imnew := hres.imnew
            dom := fun j hj => by
              have hj2 : F.length + 1 ≤ j := by
                rcases Nat.lt_or_ge j (F.length + 1) with h | h
                · rw [List.getElem?_eq_getElem (by simp; omega)] at hj; cases hj
                · exact h
              show (if j = F.length then _ else _) = none
              rw [if_neg (by omega)]
              exact hres.dom j (List.getElem?_eq_none (by omega))
            blk := fun j b hj => by
              by_cases e : j = F.length
              · subst e
                rw [List.getElem?_append_right (Nat.le_refl _), Nat.sub_self] at hj
                simp only [List.getElem?_cons_zero, Option.some.injEq] at hj
                subst hj
                exact ⟨(none, 0), by simp, rfl, .inl ⟨rfl, rfl⟩⟩
              · have hj2 : j < F.length := by
                  rcases Nat.lt_or_ge j F.length with h | h
                  · exact h
                  · rw [List.getElem?_eq_none (by simp; omega)] at hj; cases hj
                rw [List.getElem?_append_left hj2] at hj
                obtain ⟨ob, g1, g2⟩ := hres.blk j b hj
                refine ⟨ob, mono _ _ g1, ?_⟩
                cases b with
                | row c' xs => exact g2
                | cells cs =>
                  obtain ⟨b, cur, e, a1, a2, a3, a4, a5⟩ := g2
                  exact ⟨b, cur, e, a1, a2, a3, a4, fun j v hv => up (a5 j v hv)⟩
            inj := fun i j b m m' hi hj => hres.inj i j b m m' (back _ _ _ hi) (back _ _ _ hj)
            notim := fun i b m hi => hres.notim i b m (back _ _ _ hi)
            fresh := fun i b m hi => hres.fresh i b m (back _ _ _ hi)
            rep := hg _ _ _ _ _ _ _ hp (by rw [if_pos rfl]) (up hres.rep) }
  · exact hnext v w' im' ρ' _ _ hk hres
def nlQ (c p q : Nat) (n : Nat) (r : AV) : Option AV := match r with
  | .tup vs => match nth vs p with
    | .agg fs => match nth fs q with
      | .nilsl => some (.tup (setNth vs p (.agg (setNth fs q (.row c n 0 0)))))
      | _ => none
    | _ => none
  | _ => none
theorem nlQ_rep (c p q : Nat) (w : World) (im : Nat → Prop) (ρ : Ids) (v : Value) (n : Nat) (r r' : AV) (he : nlQ c p q n r = some r') (hn : ρ n = some (none, 0)) (h : Rep w im ρ v r) : Rep w im ρ v r' := by
  unfold nlQ at he
  split at he
  · rename_i vs
    split at he
    · rename_i fs hp
      split at he
      · rename_i hq
        cases he
        obtain ⟨us, rfl, h1, h2⟩ := h.inv_tup
        refine .tup (by rw [setNth_eq]; simpa using h1) fun j u hu => ?_
        rw [setNth_eq, nth_eq, List.getElem?_set]
        have h3 := h2 j u hu
        by_cases e : p = j
        · subst e
          have hpl : p < vs.length := by
            rcases Nat.lt_or_ge p vs.length with h | h
            · exact h
            · rw [nth_eq, List.getElem?_eq_none h] at hp; cases hp
          rw [if_pos rfl, if_pos hpl]
          rw [hp] at h3
          obtain ⟨ws, rfl, g1, g2, g3⟩ := h3.inv_agg
          refine .agg (by rw [setNth_eq]; simpa using g1) g2 fun i x hx => ?_
          rw [setNth_eq, nth_eq, List.getElem?_set]
          have h4 := g3 i x hx
          by_cases e : q = i
          · subst e
            have hql : q < fs.length := by
              rcases Nat.lt_or_ge q fs.length with h | h
              · exact h
              · rw [nth_eq, List.getElem?_eq_none h] at hq; cases hq
            rw [if_pos rfl, if_pos hql]
            rw [hq] at h4
            rw [h4.inv_nilsl]
            exact .row0 hn
          · rw [if_neg e, ← nth_eq]; exact h4
        · rw [if_neg e, ← nth_eq]
          exact h3
      · cases he
    · cases he
  · cases he
theorem Holds.nlAgg {P : Program} {f : FuncId} {s t : Spec} (c p q : Nat) (h : Holds P f s) (hro : s.ro = t.ro) (hown : s.own = []) (hown2 : t.own = []) (ht : ∀ args k, t.run args [] k → s.run args [] (nlGK c (nlQ c p q) k)) : Holds P f t :=
  h.nlG c (nlQ c p q) (nlQ_rep c p q) hro hown hown2 ht
end Go.Eng
