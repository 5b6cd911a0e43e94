import Derived.Test.YtcdflgfhkohldaaEngN
namespace Go.Eng
open Go
set_option linter.unusedVariables false
set_option linter.unusedSimpArgs false
theorem all_ifB {b : Bool} {l : List Prop} (h : All (ifB b l)) : b = true ∧ All l := by
  cases b with
  | true => exact ⟨rfl, h⟩
  | false => exact h.1.elim
theorem noId_any {w : World} {im : Nat → Prop} {ρ ρ' : Ids} {v : Value} {x : AV} (h : Rep w im ρ v x) (hx : noIdsB x = true) : Rep w im ρ' v x :=
  (noIds_rep h hx).stable (fun _ _ => rfl) (fun _ h => h) (fun _ _ h => by simp [noIds] at h) (fun _ _ _ _ => rfl)
section
variable {w0 w : World} {bor : Bor} {im0 im : Nat → Prop} {ρ : Ids} {σ : AS} {a : Act}
theorem slEq_ok {c c' : Nat} {xs : List (ty c)} {ys : List (ty c')} (h : All (slEq c xs c' ys)) : ∃ e : c = c', (e ▸ xs : List (ty c')) = ys := by
  unfold slEq at h
  split at h
  · rename_i e _; exact ⟨e, h.1⟩
  · exact h.1.elim
theorem elEq_ok {c c' : Nat} {x : ty c} {y : ty c'} (h : All (elEq c x c' y)) : ∃ e : c = c', (e ▸ x : ty c') = y := by
  unfold elEq at h
  split at h
  · rename_i e _; exact ⟨e, h.1⟩
  · exact h.1.elim
theorem rowC_ok {c c' : Nat} (h : rowC c c' = true) : szOf c = szOf c' := by
  unfold rowC at h
  split at h
  · rename_i e; rw [nbeq e]
  · simp only [Bool.or_eq_true, Bool.and_eq_true] at h
    rcases h with ⟨h1, h2⟩ | ⟨h1, h2⟩
    · rw [nbeq h1, nbeq h2]; rfl
    · rw [nbeq h1, nbeq h2]; rfl
theorem wEq_ok {c c' : Nat} {xs : List (ty c)} {ys : List (ty c')} {ob : Option Nat × Nat} {ρ ρ' : Ids} (h : All (wEq c xs c' ys)) (hB : BRep w im ρ ob (.row c xs)) : BRep w im ρ' ob (.row c' ys) := by
  unfold wEq at h
  split at h
  · have e := h.1
    subst e
    obtain ⟨h0, hB⟩ := hB
    refine ⟨by simpa using h0, hB.imp (fun ⟨a, b⟩ => ⟨a, by subst b; rfl⟩) ?_⟩
    rintro ⟨b, cur, e, cap, h1, h2, h3, h4, h5, h6, h7⟩
    refine ⟨b, cur, e, cap, h1, h2, h3, by simpa using h4, h5, h6, fun i j x v hx hj hv => ?_⟩
    rw [List.getElem?_map] at hx
    simp only [Option.map_eq_some_iff] at hx
    obtain ⟨y, hy, rfl⟩ := hx
    have := h7 i j y v hy hj hv
    match j, hj with
    | 0, _ => exact .dead
    | 1, _ => exact .dead
    | 2, _ => cases this with | both _ h => exact h
  · have e := h.1
    subst e
    obtain ⟨h0, hB⟩ := hB
    refine ⟨by simpa using h0, hB.imp (fun ⟨a, b⟩ => ⟨a, by subst b; rfl⟩) ?_⟩
    rintro ⟨b, cur, e, cap, h1, h2, h3, h4, h5, h6, h7⟩
    refine ⟨b, cur, e, cap, h1, h2, h3, by simpa using h4, h5, h6, fun i j x v hx hj hv => ?_⟩
    rw [List.getElem?_map] at hx
    simp only [Option.map_eq_some_iff] at hx
    obtain ⟨y, hy, rfl⟩ := hx
    have := h7 i j y v hy hj hv
    match j, hj with
    | 0, _ => exact .dead
    | 1, _ => cases this with | both _ h => exact h
  · obtain ⟨e, hh⟩ := slEq_ok h
    subst e; dsimp only at hh; subst hh
    exact hB
mutual
theorem fit_ok (ks : List Nat) : ∀ (x y : AV), All (fit x y) → closedAV ks y = true → ∀ v, Rep w im ρ v x → Rep w im (restr ks ρ) v y := by
  intro x y hf hc v hr
  have hρ : ∀ i u, memN i ks = true → ρ i = some u → restr ks ρ i = some u := fun i u hm hu => by unfold restr; rw [if_pos (memN_iff.1 hm)]; exact hu
  unfold fit at hf
  split at hf
  · exact .dead
  · obtain ⟨h1, h2⟩ := all_ifB hf
    have e := kindEq_eq h1; subst e
    have e := h2.1; subst e
    exact hr.inv_int.1 ▸ .int hr.inv_int.2
  · have e := hf.1; subst e; rw [hr.inv_bool]; exact .bool
  · have e := hf.1; subst e; rw [hr.inv_str.1]; exact .str hr.inv_str.2
  · rw [hr.inv_nilptr]; exact .nilptr
  · rw [hr.inv_nilsl]; exact .nilsl
  · cases hr; exact .nilfn
  · have e := hf.1; subst e; rw [hr.inv_nilsl]; exact .sl0
  · obtain ⟨e, h⟩ := slEq_ok hf
    subst e; dsimp only at h; subst h
    exact noId_any hr rfl
  · obtain ⟨h0, hf⟩ := hf
    subst h0
    obtain ⟨e, h⟩ := elEq_ok hf
    subst e; dsimp only at h; subst h
    exact noId_any hr rfl
  · obtain ⟨h1, h2⟩ := all_ifB hf
    simp only [Bool.and_eq_true] at h1
    have hsz := rowC_ok h1.1
    have e := nbeq h1.2; subst e
    obtain ⟨e, e', -⟩ := h2
    subst e; subst e'
    cases hr with
    | row0 h => exact .row0 (hρ _ _ hc h)
    | row h hle ho hn hm hs => exact .row (hρ _ _ hc h) hle (by rw [← hsz]; exact ho) hn hm (by rw [← hsz]; exact hs)
    | rowE h ho hm => exact .rowE (hρ _ _ hc h) ho hm
  · have e := hf.1; subst e
    cases hr; exact .val
  · have e := hf.1; subst e
    cases hr with | both _ h => cases h; exact .val
  · obtain ⟨h1, h2⟩ := all_ifB hf
    simp only [Bool.and_eq_true] at h1
    have e := nbeq h1.1; subst e
    have e := nbeq h1.2; subst e
    cases hr with
    | ptr h => exact .ptr (hρ _ _ hc h)
  · obtain ⟨h1, h2⟩ := all_ifB hf
    simp only [Bool.and_eq_true] at h1
    have e := nbeq h1.1.1; subst e
    have e := nbeq h1.1.2; subst e
    have e := nbeq h1.2; subst e
    have e := h2.1; subst e
    cases hr with
    | eptr h ho => exact .eptr (hρ _ _ hc h) ho
  · rename_i l m
    obtain ⟨vs, rfl, h1, h2, h3⟩ := hr.inv_agg
    obtain ⟨h4, h5⟩ := fitL_ok ks l m hf hc
    exact .agg (by omega) h2 fun j v hj => h5 j v (h3 j v hj)
  · rename_i l m
    obtain ⟨vs, rfl, h1, h3⟩ := hr.inv_tup
    obtain ⟨h4, h5⟩ := fitL_ok ks l m hf hc
    exact .tup (by omega) fun j v hj => h5 j v (h3 j v hj)
  · rename_i f a b f' a' b'
    obtain ⟨h0, hg⟩ := all_ifB hf
    have e := nbeq h0; subst e
    obtain ⟨vs, us, rfl, h1, h2, h3, h3'⟩ := hr.inv_fn
    obtain ⟨hf1, hf2⟩ := all_append.1 hg
    simp only [closedAV, Bool.and_eq_true] at hc
    obtain ⟨h4, h5⟩ := fitL_ok ks a a' hf1 hc.1
    obtain ⟨h4', h5'⟩ := fitL_ok ks b b' hf2 hc.2
    exact .fn (by omega) (by omega) (fun j v hj => h5 j v (h3 j v hj)) (fun j v hj => h5' j v (h3' j v hj))
  · exact hf.1.elim
theorem fitL_ok (ks : List Nat) : ∀ (l m : List AV), All (fitL l m) → closedL ks m = true → l.length = m.length ∧ ∀ (j : Nat) (v : Value), Rep w im ρ v (nth l j) → Rep w im (restr ks ρ) v (nth m j)
  | [], [], _, _ => ⟨rfl, fun _ _ _ => .dead⟩
  | x :: l, y :: m, hf, hc => by
    obtain ⟨h1, h2⟩ := all_append.1 (show All (fit x y ++ fitL l m) from hf)
    simp only [closedL, Bool.and_eq_true] at hc
    obtain ⟨h3, h4⟩ := fitL_ok ks l m h2 hc.2
    refine ⟨by simp [h3], fun j v hv => ?_⟩
    cases j with
    | zero => exact fit_ok ks x y h1 hc.1 v hv
    | succ j => exact h4 j v hv
  | [], _ :: _, hf, _ => hf.1.elim
  | _ :: _, [], hf, _ => hf.1.elim
end
theorem all_mem {l : List Prop} (h : All l) : ∀ p ∈ l, p := by
  induction l with
  | nil => simp
  | cons q r ih =>
    intro p hp
    rcases List.mem_cons.1 hp with e | e
    · subst e; exact h.1
    · exact ih h.2 p e
theorem fitLocs_ok {L : Locs} : ∀ {M : Locs}, All (fitLocs L M) → ∀ i b, lget M i = some b → ∃ b', lget L i = some b' ∧ All (fitBlk b' b)
  | [], _, i, b, h => by cases h
  | (j, x) :: r, hf, i, b, h => by
    obtain ⟨h1, h2⟩ := all_append.1 (show All (_ ++ fitLocs L r) from hf)
    unfold lget at h
    split at h
    · rename_i e
      have := nbeq e; subst this
      simp only [Option.some.injEq] at h; subst h
      split at h1
      · rename_i b' hb'; exact ⟨b', hb', h1⟩
      · exact h1.1.elim
    · exact fitLocs_ok h2 i b h
theorem noGs_ok {l : List (Nat × Nat × Bool)} (h : noGs l = true) : l = [] := by
  cases l with
  | nil => rfl
  | cons _ _ => cases h
theorem closedLocs_ok {ks : List Nat} : ∀ {L : Locs}, closedLocs ks L = true → ∀ i b, lget L i = some b → match b with | .cells cs => closedL ks cs = true | .row _ _ => True
  | [], _, i, b, h => by cases h
  | (j, .cells cs) :: r, hc, i, b, h => by
    simp only [closedLocs, Bool.and_eq_true] at hc
    unfold lget at h
    split at h
    · simp only [Option.some.injEq] at h; subst h; exact hc.1
    · exact closedLocs_ok hc.2 i b h
  | (j, .row _ _) :: r, hc, i, b, h => by
    simp only [closedLocs] at hc
    unfold lget at h
    split at h
    · simp only [Option.some.injEq] at h; subst h; trivial
    · exact closedLocs_ok hc i b h
theorem fits_sound {τ : AS} {q : Prop} (h : SA w0 bor im0 im ρ σ a w) (hf : fits σ τ q) : ∃ ρ', SA w0 bor im0 im ρ' τ a w ∧ q := by
  obtain ⟨h1, hq⟩ := all_and hf
  obtain ⟨h2, h3⟩ := all_ifB h1
  obtain ⟨h4, h5⟩ := all_append.1 h3
  simp only [Bool.and_eq_true] at h2
  obtain ⟨⟨⟨⟨g1, g2⟩, g3⟩, g4⟩, g5⟩ := h2
  obtain ⟨hl, hr⟩ := fitL_ok (w := w) (im := im) (ρ := ρ) (τ.locs.map (·.1)) _ _ h4 g4
  refine ⟨restr (τ.locs.map (·.1)) ρ, ⟨{ h.st with len := by rw [h.st.len]; exact hl, slot := fun i v hv => ?_, dom := fun i hi => ?_, blk := fun i b hb => ?_, inj := fun i j b m m' hi hj => ?_, notim := fun i b m hi => ?_, own := fun i b m hi => ?_, pin := fun i x hlt hi => h.st.pin i x hlt (restr_le hi).1 }, ?_⟩, hq⟩
  · have := h.st.slot i v hv
    unfold SRep at this ⊢
    rw [noGs_ok g1] at this
    rw [noGs_ok g2]
    exact hr i v this
  · unfold restr
    rw [if_neg (mem_of_key hi)]
  · obtain ⟨b', hb', hf'⟩ := fitLocs_ok h5 i b hb
    obtain ⟨ob, h6, h7⟩ := h.st.blk i b' hb'
    have hm : i ∈ τ.locs.map (·.1) := by
      rcases Classical.em (i ∈ τ.locs.map (·.1)) with hm | hm
      · exact hm
      · rw [lget_none hm] at hb; cases hb
    refine ⟨ob, by unfold restr; rw [if_pos hm]; exact h6, ?_⟩
    have hcl := closedLocs_ok g5 i b hb
    unfold fitBlk at hf'
    split at hf'
    · rename_i l m
      obtain ⟨b, cur, e, q1, q2, q3, q4, q5⟩ := h7
      obtain ⟨hl', hr'⟩ := fitL_ok (w := w) (im := im) (ρ := ρ) (τ.locs.map (·.1)) _ _ hf' hcl
      exact ⟨b, cur, e, q1, q2, by omega, q4, fun j v hj => hr' j v (q5 j v hj)⟩
    · exact wEq_ok hf' h7
    · exact hf'.1.elim
  · exact h.st.inj i j b m m' (restr_le hi).1 (restr_le hj).1
  · exact h.st.notim i b m (restr_le hi).1
  · exact h.st.own i b m (restr_le hi).1
  · exact nodup_ok g3
theorem SA.reblk {σ : AS} {ρ : Ids} (h : SA w0 bor im0 im ρ σ a w) {i : Nat} {cs cs' : List AV} (hl : lget σ.locs i = some (.cells cs)) (hlen : cs'.length = cs.length) (hrep : ∀ (j : Nat) (v : Value), Rep w im ρ v (nth cs j) → Rep w im ρ v (nth cs' j)) : SA w0 bor im0 im ρ ⟨σ.slots, σ.gs, lset σ.locs i (.cells cs')⟩ a w := by
  refine ⟨{ h.st with dom := fun j hj => ?_, blk := fun j b hj => ?_ }, h.uniq.lset i _⟩
  · rw [lget_lset hl] at hj
    unfold upd at hj
    split at hj
    · cases hj
    · exact h.st.dom j hj
  · rw [lget_lset hl] at hj
    unfold upd at hj
    split at hj
    · rename_i e
      simp only [Option.some.injEq] at hj
      subst hj
      subst e
      obtain ⟨ob, h1, b, cur, e, q1, q2, q3, q4, q5⟩ := h.st.blk _ _ hl
      exact ⟨ob, h1, b, cur, e, q1, q2, by rw [hlen]; exact q3, q4, fun j v hv => hrep j v (q5 j v hv)⟩
    · exact h.st.blk j b hj
theorem swp_eq (i j k : Nat) : swp i j k = if k = i then j else if k = j then i else k := by
  unfold swp
  split
  · rename_i h; rw [if_pos (nbeq h)]
  · rename_i h
    rw [if_neg (nbeqF h)]
    split
    · rename_i h; rw [if_pos (nbeq h)]
    · rename_i h; rw [if_neg (nbeqF h)]
theorem swp_swp (i j k : Nat) : swp i j (swp i j k) = k := by
  rw [swp_eq, swp_eq]
  by_cases h : k = i
  · rw [if_pos h]
    by_cases h2 : j = i
    · rw [if_pos h2]; omega
    · rw [if_neg h2, if_pos rfl]; omega
  · rw [if_neg h]
    by_cases h2 : k = j
    · rw [if_pos h2, if_pos rfl]; omega
    · rw [if_neg h2, if_neg h, if_neg h2]
theorem swp_inj {i j k l : Nat} (h : swp i j k = swp i j l) : k = l := by rw [← swp_swp i j k, h, swp_swp]
theorem swp_low {i j k : Nat} (hi : 900 ≤ i) (hj : 900 ≤ j) (hk : k < 900) : swp i j k = k := by
  rw [swp_eq, if_neg (by omega), if_neg (by omega)]
theorem lget_swp (i j : Nat) : ∀ (L : Locs) (k : Nat), lget (swpLocs (swp i j) L) k = (lget L (swp i j k)).map (renBlk (swp i j))
  | [], k => rfl
  | (l, b) :: r, k => by
    unfold swpLocs lget
    cases h : Nat.beq (swp i j l) k with
    | true =>
      have e := nbeq h
      subst e
      rw [swp_swp]
      have : Nat.beq l l = true := Nat.beq_refl l
      rw [this]; rfl
    | false =>
      have e := nbeqF h
      have : Nat.beq l (swp i j k) = false := by
        cases h2 : Nat.beq l (swp i j k) with
        | false => rfl
        | true =>
          have e2 := nbeq h2
          exact absurd (by rw [e2, swp_swp]) e
      rw [this]
      exact lget_swp i j r k
theorem keys_swp (f : Nat → Nat) : ∀ (L : Locs), (swpLocs f L).map (·.1) = (L.map (·.1)).map f
  | [] => rfl
  | (k, b) :: r => by simp [swpLocs, keys_swp f r]
theorem SA.swap {σ : AS} {ρ : Ids} (h : SA w0 bor im0 im ρ σ a w) {i j : Nat} (hi : 900 ≤ i) (hj : 900 ≤ j) : SA w0 bor im0 im (fun k => ρ (swp i j k)) (σ.swap i j) a w := by
  have hρ : ∀ k x, ρ k = some x → (fun k => ρ (swp i j k)) (swp i j k) = some x := fun k x hk => by dsimp only; rw [swp_swp]; exact hk
  refine ⟨{ h.st with len := by rw [h.st.len]; show _ = (renL _ _).length; rw [renL_eq, List.length_map], slot := fun k v hv => ?_, dom := fun k hk => ?_, blk := fun k b hk => ?_, inj := fun k l b m m' hk hl => swp_inj (h.st.inj _ _ b m m' hk hl), notim := fun k b m hk => h.st.notim _ b m hk, own := fun k b m hk => h.st.own _ b m hk, pin := fun k x hlt hk => h.st.pin k x hlt (by rw [← swp_low hi hj hlt]; exact hk) }, ?_⟩
  · have := h.st.slot k v hv
    unfold SRep at this ⊢
    show match gget σ.gs k with | none => Rep w im _ v (nth (renL (swp i j) σ.slots) k) | some (tc, wt) => _
    rw [renL_eq, nth_map_dead (by rfl)]
    split
    · rename_i hg; rw [hg] at this; exact this.ren _ hρ
    · rename_i tc wt hg
      rw [hg] at this
      refine ⟨fun e => ?_, this.2⟩
      show Rep w im _ v (nth (renL (swp i j) σ.slots) k)
      rw [renL_eq, nth_map_dead (by rfl)]
      exact (this.1 e).ren (swp i j) hρ
  · have hk' : lget (swpLocs (swp i j) σ.locs) k = none := hk
    rw [lget_swp] at hk'
    exact h.st.dom _ (Option.map_eq_none_iff.1 hk')
  · have hk' : lget (swpLocs (swp i j) σ.locs) k = some b := hk
    rw [lget_swp] at hk'
    obtain ⟨b0, h1, h2⟩ := Option.map_eq_some_iff.1 hk'
    obtain ⟨ob, h3, h4⟩ := h.st.blk _ _ h1
    refine ⟨ob, h3, ?_⟩
    subst h2
    have := h4.ren (ρ2 := fun k => ρ (swp i j k)) (swp i j) hρ
    cases b0 <;> exact this
  · show Uniq (swpLocs (swp i j) σ.locs)
    have hu := h.uniq
    unfold Uniq at hu ⊢
    rw [keys_swp]
    exact List.Pairwise.map _ (fun x y hxy e => hxy (swp_inj e)) hu
theorem name_ok {σ : AS} {ρ : Ids} (h : SA w0 bor im0 im ρ σ a w) (i j : Nat) : ∃ ρ', SA w0 bor im0 im ρ' (σ.name i j) a w := by
  unfold AS.name
  split
  · exact ⟨_, h⟩
  · split
    · rename_i hb
      simp only [Bool.and_eq_true] at hb
      exact ⟨_, h.swap (Nat.le_of_ble_eq_true hb.1) (Nat.le_of_ble_eq_true hb.2)⟩
    · exact ⟨_, h⟩
theorem box_ok : ∀ (l : List (Nat × Nat × Nat)) {σ : AS} {ρ : Ids} {im : Nat → Prop}, SA w0 bor im0 im ρ σ a w → ∃ im' ρ', SA w0 bor im0 im' ρ' (σ.box l) a w
  | [], σ, ρ, im, h => ⟨im, ρ, h⟩
  | (s, id, c) :: r, σ, ρ, im, h => by
    unfold AS.box
    split
    · split
      · rename_i b o hn
        split
        · rename_i cs hcs
          split
          · rename_i hnil
            split
            · rename_i hb
              simp only [Bool.and_eq_true] at hb
              have hid := absent_eq hb.1
              have hst := h.st.add hid (absent_ge hb.1) (ob := (none, 0)) (blk := .row c []) ⟨rfl, .inl ⟨rfl, rfl⟩⟩ (fun b e => by cases e)
              have hB : SA w0 bor im0 im (upd ρ id (some (none, 0))) ⟨σ.slots, σ.gs, (id, .row c []) :: σ.locs⟩ a w := ⟨by dsimp only; rw [lget_cons]; exact hst, h.uniq.cons hid _⟩
              have hne : b ≠ id := fun e => by rw [e, hid] at hcs; cases hcs
              have hl : lget ((id, Blk.row c []) :: σ.locs) b = some (.cells cs) := by
                rw [lget_cons]
                unfold upd
                rw [if_neg hne]; exact hcs
              refine box_ok r (hB.reblk hl (by rw [setNth_eq, List.length_set]) fun j v hv => ?_)
              rw [setNth_eq, nth_eq, List.getElem?_set]
              by_cases e : (s - 1000000) % 100 = j
              · rw [if_pos e]
                rw [← e, hnil] at hv
                split
                · rw [hv.inv_nilsl]
                  exact .row0 (upd_same _ _ _)
                · exact .dead
              · rw [if_neg e, ← nth_eq]; exact hv
            · exact box_ok r h
          · split
            · obtain ⟨im1, ρ1, h1, -⟩ := h.freeze (i := _)
              exact box_ok r h1
            · obtain ⟨ρ', h'⟩ := name_ok h _ _
              exact box_ok r h'
          · exact box_ok r h
        · exact box_ok r h
      · exact box_ok r h
    · split
      · rename_i hn
        split
        · rename_i hb
          simp only [Bool.and_eq_true] at hb
          have hid := absent_eq hb.1
          have hgs := noGs_ok hb.2
          have hst := h.st.add hid (absent_ge hb.1) (ob := (none, 0)) (blk := .row c []) ⟨rfl, .inl ⟨rfl, rfl⟩⟩ (fun b e => by cases e)
          have hB : SA w0 bor im0 im (upd ρ id (some (none, 0))) ⟨σ.slots, σ.gs, (id, .row c []) :: σ.locs⟩ a w := ⟨by dsimp only; rw [lget_cons]; exact hst, h.uniq.cons hid _⟩
          refine box_ok r (hB.reslot (tc := s) (gs' := σ.gs) (fun _ _ => rfl) (by rw [hgs]; rfl) fun v hv => ?_)
          have := hB.st.slot s v hv
          unfold SRep at this
          dsimp only at this
          rw [hgs] at this
          dsimp only [gget] at this
          rw [hn] at this
          rw [this.inv_nilsl]
          exact .row0 (upd_same _ _ _)
        · exact box_ok r h
      · split
        · obtain ⟨im1, ρ1, h1, -⟩ := h.freeze (i := _)
          exact box_ok r h1
        · obtain ⟨ρ', h'⟩ := name_ok h _ _
          exact box_ok r h'
      · exact box_ok r h
def exOf : Ex → Exit
  | .norm => .normal
  | .exit i => .exit i
  | .ret => .ret
theorem br_ok {b : Bool} {A B : Prop} (h : br b A B) : if b then A else B := by cases b <;> exact h
theorem wp_loop_ghost {P : Program} {Q : Exit → Act → World → Prop} {c : Code} {V : Type} (I : V → Act → World → Prop) (μ : V → Nat) {a : Act} {w : World} (v0 : V) (h₀ : I v0 a w)
    (round : ∀ v a w, I v a w → c.wp P (Exit.then (fun a' w' => ∃ v', I v' a' w' ∧ μ v' < μ v) Q) a w) : (Code.loop c).wp P Q a w := by
  intro b k cs
  have key : ∀ n v a w, μ v = n → I v a w →
      ∃ e a' w', Q e a' w' ∧ Arrives P (lone (b.at a (.code c :: .inLoop c :: k)) cs w) b k cs e a' w' := by
    intro n
    induction n using Nat.strongRecOn with
    | _ n ih =>
      intro v a w hn hI
      obtain ⟨e, a₁, w₁, hq, harr⟩ := round v a w hI b (.inLoop c :: k) cs
      cases e with
      | normal =>
        obtain ⟨v1, hI₁, hlt⟩ := hq
        obtain ⟨e₂, a₂, w₂, hq₂, harr₂⟩ := ih (μ v1) (hn ▸ hlt) v1 a₁ w₁ rfl hI₁
        exact ⟨e₂, a₂, w₂, hq₂, .of_steps (Steps.trans harr (.one step_inLoop)) harr₂⟩
      | exit id => exact ⟨_, a₁, w₁, hq, .pass (x := .inLoop c) rfl (fun _ _ => .inl (by simp)) harr⟩
      | goto l => exact ⟨_, a₁, w₁, hq, .pass (x := .inLoop c) rfl (fun _ _ => .inl (by simp)) harr⟩
      | ret => exact ⟨_, a₁, w₁, hq, .pass (x := .inLoop c) rfl (fun _ _ => .inl (by simp)) harr⟩
      | panic ch => exact ⟨_, a₁, w₁, hq, .pass (x := .inLoop c) rfl (fun _ _ => .inl (by simp)) harr⟩
      | outgrown => exact ⟨_, a₁, w₁, hq, .pass (x := .inLoop c) rfl (fun _ _ => .inl (by simp)) harr⟩
  obtain ⟨e, a', w', hq, harr⟩ := key _ v0 a w rfl h₀
  exact ⟨e, a', w', hq, .of_steps (.one step_loop) harr⟩
theorem vc_sound {P : Program} {sp : FuncId → Option Spec} {yw : Nat × Option Nat} (hΓ : Gam P sp yw w0 bor im0) : ∀ (c : Code) {env : Env} (hP : env.P = P) (hsp : env.spec = sp) (hyw : env.yw = yw) {σ : AS} {a : Act} {w : World} {im : Nat → Prop} {ρ : Ids} {K : Ex → AS → Prop} {Q : Exit → Act → World → Prop},
    SA w0 bor im0 im ρ σ a w → vc env c σ K → (∀ e σ' a' w' im' ρ', K e σ' → SA w0 bor im0 im' ρ' σ' a' w' → Q (exOf e) a' w') → c.wp P Q a w := by
  intro c
  induction c with
  | skip => intro env hP hsp hyw σ a w im ρ K Q h hv hn; exact wp_skip (hn .norm _ _ _ _ _ hv h)
  | region id ops draw =>
    intro env hP hsp hyw σ a w im ρ K Q h hv hn
    unfold vc at hv
    cases draw with
    | true =>
      subst hP; subst hsp; subst hyw
      dsimp only at hv
      split at hv
      · rename_i hc
        simp only [Bool.and_eq_true] at hc
        refine wp_region_K (lf := lends env) (R := fun a w => ∃ σ' im' ρ', K .norm σ' ∧ SA w0 bor im0 im' ρ' σ' a w) hc.2 (fun a w ⟨σ', im', ρ', hk, h'⟩ => hn .norm _ _ _ _ _ hk h') ?_
        rw [← arr_zero, ← Array.length_toList]
        have hd : SA w0 bor im0 im ρ σ a { w with drawn := w.drawn + 1 } := ⟨h.st.drew, h.uniq⟩
        have := vcAny_sound (Q := fun e a w => match e with | .normal => (∃ σ' im' ρ', K .norm σ' ∧ SA w0 bor im0 im' ρ' σ' a w) | _ => False) hΓ hc.1 (fun _ _ _ h => h) _ 0 hd hv (fun σ' a' w' im' ρ' hk h' => ⟨σ', im', ρ', hk, h'⟩)
        rw [← Array.length_toList] at this
        exact this
      · exact hv.elim
    | false => subst hP; subst hsp; subst hyw; exact wp_region_list (vcOps_sound hΓ _ _ h hv fun σ' a' w' im' ρ' hk h' => hn .norm _ _ _ _ _ hk h')
  | seq x y ihx ihy =>
    intro env hP hsp hyw σ a w im ρ K Q h hv hn
    unfold vc at hv
    refine wp_seq ?_
    split at hv
    · refine ihx hP hsp hyw h hv fun e σ' a' w' im' ρ' hk h' => ?_
      cases e with
      | norm => exact ihy hP hsp hyw h' hk hn
      | exit i => exact hn (.exit i) _ _ _ _ _ hk h'
      | ret => exact hn .ret _ _ _ _ _ hk h'
    · rename_i A hA
      obtain ⟨hv1, hv2⟩ := hv
      refine ihx hP hsp hyw h hv1 fun e σ' a' w' im' ρ' hk h' => ?_
      cases e with
      | norm =>
        obtain ⟨v, hk⟩ := hk
        obtain ⟨im1, ρ1, h1⟩ := box_ok A.boxes h'
        obtain ⟨ρ2, h2, hI⟩ := fits_sound h1 hk
        exact ihy (env := env.push (A.key v)) hP hsp hyw h2 (hv2 v hI) hn
      | exit i => exact hn (.exit i) _ _ _ _ _ hk h'
      | ret => exact hn .ret _ _ _ _ _ hk h'
  | cond c x y ihx ihy =>
    intro env hP hsp hyw σ a w im ρ K Q h hv hn
    unfold vc at hv
    split at hv
    · rename_i b hb
      have hr := h.ev (g := none) (fun _ _ e => by cases e) c
      rw [hb] at hr
      have hv := br_ok hv
      refine wp_cond hr.inv_bool ?_
      cases b with
      | true => exact ihx hP hsp hyw h hv hn
      | false => exact ihy hP hsp hyw h hv hn
    · exact hv.elim
  | block id c ih =>
    intro env hP hsp hyw σ a w im ρ K Q h hv hn
    unfold vc at hv
    refine wp_block (ih hP hsp hyw h hv fun e σ' a' w' im' ρ' hk h' => ?_)
    cases e with
    | norm => exact hn .norm _ _ _ _ _ hk h'
    | ret => exact hn .ret _ _ _ _ _ hk h'
    | exit i =>
      dsimp only at hk
      show (if i = id then Q .normal a' w' else Q (.exit i) a' w')
      split at hk
      · rename_i e
        rw [if_pos (nbeq e)]
        exact hn .norm _ _ _ _ _ hk h'
      · rename_i e
        rw [if_neg (nbeqF e)]
        exact hn (.exit i) _ _ _ _ _ hk h'
  | loop c ih =>
    intro env hP hsp hyw σ a w im ρ K Q h hv hn
    unfold vc at hv
    split at hv
    · refine wp_loop_ghost (fun n a w => ∃ σ im ρ, SA w0 bor im0 im ρ σ a w ∧ (Nat.rec (motive := fun _ => AS → Prop) (fun _ => False) (fun n ih σ => vc (env.rnd n) c σ fun e σ' => match e with
        | .norm => ih σ'
        | e => K e σ') n σ)) id env.fuel ⟨σ, im, ρ, h, hv⟩ ?_
      rintro n a w ⟨σ, im, ρ, h, hv⟩
      cases n with
      | zero => exact hv.elim
      | succ n =>
        refine ih (env := env.rnd n) ((env.rnd_P n).trans hP) ((env.rnd_spec n).trans hsp) ((env.rnd_yw n).trans hyw) h hv fun e σ' a' w' im' ρ' hk h' => ?_
        cases e with
        | norm => exact ⟨n, ⟨σ', im', ρ', h', hk⟩, Nat.lt_succ_self n⟩
        | exit i => exact hn (.exit i) _ _ _ _ _ hk h'
        | ret => exact hn .ret _ _ _ _ _ hk h'
    · rename_i A hA
      obtain ⟨⟨v0, hv0⟩, hv1⟩ := hv
      obtain ⟨im1, ρ1, h1⟩ := box_ok A.boxes h
      obtain ⟨ρ2, h2, hI⟩ := fits_sound h1 hv0
      refine wp_loop_ghost (fun v a w => A.I v ∧ ∃ im ρ, SA w0 bor im0 im ρ (A.st v) a w) A.μ v0 ⟨hI, im1, ρ2, h2⟩ ?_
      rintro v a w ⟨hI, im, ρ, h⟩
      refine ih (env := env.push (A.key v)) hP hsp hyw h (hv1 v hI) fun e σ' a' w' im' ρ' hk h' => ?_
      cases e with
      | norm =>
        obtain ⟨v', hk⟩ := hk
        obtain ⟨im1, ρ1, h1⟩ := box_ok A.boxes h'
        obtain ⟨ρ2, h2, hI'⟩ := fits_sound h1 hk
        exact ⟨v', ⟨hI'.1, _, _, h2⟩, hI'.2⟩
      | exit i => exact hn (.exit i) _ _ _ _ _ hk h'
      | ret => exact hn .ret _ _ _ _ _ hk h'
  | scope c ih =>
    intro env hP hsp hyw σ a w im ρ K Q h hv hn
    unfold vc at hv
    refine wp_scope_straight (ih hP hsp hyw h hv fun e σ' a' w' im' ρ' hk h' => ?_)
    have := hn e σ' a' w' im' ρ' hk h'
    cases e <;> exact this
  | label l => intro env hP hsp hyw σ a w im ρ K Q h hv hn; exact wp_label (hn .norm _ _ _ _ _ hv h)
  | exit id => intro env hP hsp hyw σ a w im ρ K Q h hv hn; exact wp_exit (hn (.exit id) _ _ _ _ _ hv h)
  | ret => intro env hP hsp hyw σ a w im ρ K Q h hv hn; exact wp_ret (hn .ret _ _ _ _ _ hv h)
  | _ => intro env hP hsp hyw σ a w im ρ K Q h hv hn; exact hv.elim
end
end Go.Eng
