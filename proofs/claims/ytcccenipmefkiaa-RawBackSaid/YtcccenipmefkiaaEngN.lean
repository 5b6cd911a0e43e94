import Derived.Test.YtcccenipmefkiaaEngM
namespace Go.Eng
open Go
set_option linter.unusedVariables false
set_option linter.unusedSimpArgs false

section
variable {w0 w : World} {bor im0 im : Nat → Prop} {ρ : Ids} {σ : AS} {a : Act}

theorem St.reslot {sl sl' : List AV} {gs gs' : List (Nat × Nat × Bool)} {L : Nat → Option Blk} (h : St w0 bor im0 im ρ sl gs L a w) (hl : sl'.length = sl.length)
    (hs : ∀ (i : Nat) (v : Value), a.tmps[i]? = some v → SRep w im ρ gs sl a.tmps i v → SRep w im ρ gs' sl' a.tmps i v) : St w0 bor im0 im ρ sl' gs' L a w :=
  { h with
    len := by rw [hl]; exact h.len
    slot := fun i v hv => hs i v hv (h.slot i v hv) }

/-- One slot, told anew. -/
theorem SA.reslot (h : SA w0 bor im0 im ρ σ a w) {tc : Nat} {x : AV} {gs' : List (Nat × Nat × Bool)} (hg : ∀ i, i ≠ tc → gget gs' i = gget σ.gs i) (hn : gget gs' tc = none)
    (hr : ∀ v, a.tmps[tc]? = some v → Rep w im ρ v x) : SA w0 bor im0 im ρ ⟨setNth σ.slots tc x, gs', σ.locs⟩ a w := by
  refine ⟨h.st.reslot (by rw [setNth_eq]; simp) fun i v hv hs => ?_, h.uniq⟩
  by_cases e : i = tc
  · subst e
    unfold SRep
    dsimp only
    rw [hn]
    dsimp only
    rw [nth_set]
    have hlt : i < σ.slots.length := by rw [← h.st.len]; exact get_lt hv
    rw [if_pos ⟨rfl, hlt⟩]
    exact hr v hv
  · unfold SRep at hs ⊢
    dsimp only
    rw [hg i e, nth_set, if_neg (by rintro ⟨e', -⟩; exact e e'.symm)]
    exact hs

theorem SA.regs (h : SA w0 bor im0 im ρ σ a w) {tc : Nat} {gs' : List (Nat × Nat × Bool)} (hg : ∀ i, i ≠ tc → gget gs' i = gget σ.gs i) (hn : gget gs' tc = none)
    (hr : ∀ v, a.tmps[tc]? = some v → Rep w im ρ v (nth σ.slots tc)) : SA w0 bor im0 im ρ ⟨σ.slots, gs', σ.locs⟩ a w := by
  refine ⟨h.st.reslot rfl fun i v hv hs => ?_, h.uniq⟩
  by_cases e : i = tc
  · subst e
    unfold SRep
    dsimp only
    rw [hn]
    exact hr v hv
  · unfold SRep at hs ⊢
    dsimp only
    rw [hg i e]
    exact hs

/-- What a guard's slot holds is known. -/
def Dec (σ : AS) (a : Act) (tc : Nat) : Prop :=
  gget σ.gs tc = none ∧ ((∃ b, nth σ.slots tc = .bool b ∧ a.tmps[tc]? = some (.bool b)) ∨ ((∀ b, nth σ.slots tc ≠ .bool b) ∧ ∀ b, a.tmps[tc]? ≠ some (.bool b)))

theorem nth_lt {l : List AV} {i : Nat} (h : nth l i ≠ .dead) : i < l.length := by
  rcases Nat.lt_or_ge i l.length with h1 | h1
  · exact h1
  · exact absurd (nth_ge l i h1) h

theorem SA.get (h : SA w0 bor im0 im ρ σ a w) {tc : Nat} (hn : nth σ.slots tc ≠ .dead) : ∃ v, a.tmps[tc]? = some v := by
  have := nth_lt hn
  rw [← h.st.len] at this
  exact ⟨a.tmps[tc], by simp [this]⟩

theorem tup0_undef {v : Value} (h : Rep w im ρ v (.tup [])) : v = undef := by
  obtain ⟨vs, rfl, hl, -⟩ := h.inv_tup
  have : vs = #[] := Array.eq_empty_of_size_eq_zero (by simpa using hl)
  subst this; rfl

theorem Dec.boolIs {tc : Nat} {b : Bool} (h : Dec σ a tc) (hn : nth σ.slots tc = .bool b) : a.tmps[tc]? = some (.bool b) := by
  rcases h.2 with ⟨b', h1, h2⟩ | ⟨h1, -⟩
  · rw [hn] at h1; simp only [AV.bool.injEq] at h1; subst h1; exact h2
  · exact absurd hn (h1 b)
theorem Dec.not {tc : Nat} (h : Dec σ a tc) (hn : ∀ b, nth σ.slots tc ≠ .bool b) (b : Bool) : a.tmps[tc]? ≠ some (.bool b) := by
  rcases h.2 with ⟨b', h1, h2⟩ | ⟨h1, h2⟩
  · exact absurd h1 (hn _)
  · exact h2 b

theorem decide_sound : ∀ (n : Nat) (σ : AS) (tc : Nat) (k : AS → Prop), SA w0 bor im0 im ρ σ a w → decide' σ n tc k → ∃ σ', k σ' ∧ SA w0 bor im0 im ρ σ' a w ∧ Dec σ' a tc
  | 0, _, _, _, _, hv => hv.elim
  | n + 1, σ, tc, k, h, hv => by
    unfold decide' at hv
    split at hv
    · rename_i hg
      have hsl : ∀ v, a.tmps[tc]? = some v → Rep w im ρ v (nth σ.slots tc) := fun v hv => by
        have := h.st.slot tc v hv
        unfold SRep at this
        rw [hg] at this
        exact this
      split at hv
      · rename_i b hn
        obtain ⟨v, hv'⟩ := h.get (tc := tc) (by rw [hn]; simp)
        have hr := hsl v hv'
        rw [hn] at hr
        have e := hr.inv_bool
        subst e
        have hset : ∀ x, nth (setNth σ.slots tc x) tc = x := fun x => by rw [nth_set, if_pos ⟨rfl, nth_lt (by rw [hn]; simp)⟩]
        cases b with
        | true => exact ⟨_, hv, h.reslot (fun _ _ => rfl) hg (fun v h' => by rw [hv'] at h'; cases h'; exact .bool), hg, .inl ⟨_, hset _, hv'⟩⟩
        | false => exact ⟨_, hv, h.reslot (fun _ _ => rfl) hg (fun v h' => by rw [hv'] at h'; cases h'; exact .bool), hg, .inl ⟨_, hset _, hv'⟩⟩
      · rename_i hn
        obtain ⟨v, hv'⟩ := h.get (tc := tc) (by rw [hn]; simp)
        have hr := hsl v hv'
        rw [hn] at hr
        have e := tup0_undef hr
        subst e
        exact ⟨_, hv, h, hg, .inr ⟨by rw [hn]; simp, by rw [hv']; simp [undef]⟩⟩
      · exact hv.elim
    · rename_i tc' w1 hg
      obtain ⟨σ', hk, h', hD⟩ := decide_sound n σ tc' _ h hv
      split at hk
      · exact hk.elim
      · rename_i tc2 w' hg'
        split at hk
        · exact hk.elim
        · rename_i hb
          have e := nbeq hb
          subst e
          have hsl : ∀ v, a.tmps[tc]? = some v → (a.tmps[tc2]? = some (.bool w') → Rep w im ρ v (nth σ'.slots tc)) ∧ (a.tmps[tc2]? ≠ some (.bool w') → v = undef) := fun v hv => by
            have := h'.st.slot tc v hv
            unfold SRep at this
            rw [hg'] at this
            exact this
          have hne : ∀ i, i ≠ tc → gget (gdel σ'.gs tc) i = gget σ'.gs i := fun i hi => gget_gdel_other _ hi
          have hsame : gget (gdel σ'.gs tc) tc = none := gget_gdel_same _ _
          have hundef : a.tmps[tc2]? ≠ some (.bool w') → k { σ' with slots := setNth σ'.slots tc (.tup []), gs := gdel σ'.gs tc } → ∃ σ', k σ' ∧ SA w0 bor im0 im ρ σ' a w ∧ Dec σ' a tc := by
            intro hx hk
            rcases Nat.lt_or_ge tc σ'.slots.length with hlt | hge
            · have hlt' := hlt
              rw [← h'.st.len] at hlt'
              have hv' : a.tmps[tc]? = some a.tmps[tc] := by simp [hlt']
              have e := (hsl _ hv').2 hx
              rw [e] at hv'
              refine ⟨_, hk, h'.reslot hne hsame (fun v h1 => by rw [hv'] at h1; cases h1; exact undef_rep), hsame, .inr ⟨?_, by rw [hv']; simp [undef]⟩⟩
              dsimp only
              rw [nth_set, if_pos ⟨rfl, hlt⟩]; simp
            · have hnone : a.tmps[tc]? = none := by rw [Array.getElem?_eq_none_iff]; rw [h'.st.len]; exact hge
              refine ⟨_, hk, h'.reslot hne hsame (fun v h1 => by rw [hnone] at h1; cases h1), hsame, .inr ⟨?_, by rw [hnone]; simp⟩⟩
              dsimp only
              rw [nth_ge _ _ (by rw [setNth_eq]; simpa using hge)]; simp
          split at hk
          · rename_i b hn
            have hb2 := hD.boolIs hn
            split at hk
            · rename_i hbw
              have := beqB_eq.1 hbw
              subst this
              split at hk
              · rename_i b' hn'
                obtain ⟨v, hv'⟩ := h'.get (tc := tc) (by rw [hn']; simp)
                have hr := (hsl v hv').1 hb2
                rw [hn'] at hr
                have e := hr.inv_bool
                subst e
                have hset : ∀ x, nth (setNth σ'.slots tc x) tc = x := fun x => by rw [nth_set, if_pos ⟨rfl, nth_lt (by rw [hn']; simp)⟩]
                cases b' with
                | true => exact ⟨_, hk, h'.reslot hne hsame (fun v h1 => by rw [hv'] at h1; cases h1; exact .bool), hsame, .inl ⟨_, hset _, hv'⟩⟩
                | false => exact ⟨_, hk, h'.reslot hne hsame (fun v h1 => by rw [hv'] at h1; cases h1; exact .bool), hsame, .inl ⟨_, hset _, hv'⟩⟩
              · rename_i hn'
                obtain ⟨v, hv'⟩ := h'.get (tc := tc) (by rw [hn']; simp)
                have hr := (hsl v hv').1 hb2
                rw [hn'] at hr
                have e := tup0_undef hr
                subst e
                refine ⟨_, hk, h'.regs hne hsame (fun v h1 => by rw [hv'] at h1; cases h1; rw [hn']; exact undef_rep), hsame, .inr ⟨by dsimp only; rw [hn']; simp, by rw [hv']; simp [undef]⟩⟩
              · exact hk.elim
            · rename_i hbw
              refine hundef (fun h1 => ?_) hk
              rw [hb2] at h1
              simp only [Option.some.injEq, Value.bool.injEq] at h1
              rw [h1] at hbw
              have := beqB_eq.2 (rfl : w' = w')
              rw [this] at hbw; cases hbw
          · rename_i hn
            exact hundef (hD.not (by rw [hn]; simp) w') hk
          · exact hk.elim

theorem gprop_sound (h : SA w0 bor im0 im ρ σ a w) : ∀ (n : Nat) (tc : Nat) (b : Bool), a.tmps[tc]? = some (.bool b) → All (gprop σ n tc b)
  | 0, _, _, _ => trivial
  | n + 1, tc, b, hb => by
    have hs := h.st.slot tc _ hb
    unfold SRep at hs
    unfold gprop
    split
    · rename_i hg
      rw [hg] at hs
      split
      · rename_i b' hn
        dsimp only at hs
        rw [hn] at hs
        have := hs.inv_bool
        simp only [Value.bool.injEq] at this
        exact ⟨this.symm, trivial⟩
      · trivial
    · rename_i tc' w' hg
      rw [hg] at hs
      have h1 : a.tmps[tc']? = some (.bool w') := by
        rcases Classical.em (a.tmps[tc']? = some (.bool w')) with h1 | h1
        · exact h1
        · have := hs.2 h1; simp [undef] at this
      split
      · rename_i b' hn
        have := hs.1 h1
        rw [hn] at this
        have := this.inv_bool
        simp only [Value.bool.injEq] at this
        exact ⟨this.symm, gprop_sound h n _ _ h1⟩
      · exact gprop_sound h n _ _ h1

theorem fold_get (gs : List (Nat × Nat × Bool)) : ∀ (sl : List AV), (gs.foldl (fun s g => setNth s g.1 .dead) sl).length = sl.length ∧
    ∀ i, nth (gs.foldl (fun s g => setNth s g.1 .dead) sl) i = .dead ∨ (nth (gs.foldl (fun s g => setNth s g.1 .dead) sl) i = nth sl i ∧ (gget gs i = none)) := by
  induction gs with
  | nil => intro sl; exact ⟨rfl, fun i => .inr ⟨rfl, rfl⟩⟩
  | cons x r ih =>
    obtain ⟨t, g, b⟩ := x
    intro sl
    obtain ⟨h1, h2⟩ := ih (setNth sl t .dead)
    refine ⟨by simp only [List.foldl_cons]; rw [h1, setNth_eq]; simp, fun i => ?_⟩
    simp only [List.foldl_cons]
    rcases h2 i with h3 | ⟨h3, h4⟩
    · exact .inl h3
    · rw [h3, nth_set]
      by_cases e : t = i
      · subst e
        left
        split
        · rfl
        · rename_i hh
          have : ¬ t < sl.length := fun e => hh ⟨rfl, e⟩
          exact nth_ge _ _ (by omega)
      · rw [if_neg (by rintro ⟨e', -⟩; exact e e')]
        right
        refine ⟨rfl, ?_⟩
        unfold gget
        have : Nat.beq t i = false := by
          cases hb : Nat.beq t i with
          | false => rfl
          | true => exact absurd (nbeq hb) e
        rw [this]
        exact h4

theorem SA.drop (h : SA w0 bor im0 im ρ σ a w) : SA w0 bor im0 im ρ σ.drop a w := by
  obtain ⟨h1, h2⟩ := fold_get σ.gs σ.slots
  refine ⟨h.st.reslot (by exact h1) fun i v hv hs => ?_, h.uniq⟩
  show Rep w im ρ v (nth (σ.gs.foldl (fun s g => setNth s g.1 .dead) σ.slots) i)
  rcases h2 i with h3 | ⟨h3, h4⟩
  · rw [h3]; exact .dead
  · rw [h3]
    unfold SRep at hs
    rw [h4] at hs
    exact hs

theorem inK_of {k : IntKind} {x : Int} (h : kwf k x) : inK k x := by
  cases k <;> first | trivial | exact h
theorem bindAV_ok {b : Bool} {v : AV} {k : AV → Prop} {val : Value} (hr : Rep w im ρ val v) (h : bindAV b v k) : k v := by
  unfold bindAV at h
  split at h
  · exact h _ rfl (inK_of hr.inv_int.2)
  · exact h
theorem bindG_ok {b : Bool} {v : AV} {k : AV → Prop} (h : bindG b v k) : k v := by
  unfold bindG at h
  split at h
  · exact h _ rfl
  · exact h

theorem vcOps_sound {env : Env} (hΓ : ∀ f s, env.spec f = some s → Holds env.P f s) {ops : Array Oper} {Q : Exit → Act → World → Prop} {k : AS → Prop} : ∀ (rest : List Oper) (id : Nat) {σ : AS} {a : Act} {w : World} {im : Nat → Prop} {ρ : Ids},
    SA w0 bor im0 im ρ σ a w → vcOps env ops.toList rest id σ k → (∀ σ' a' w' im' ρ', k σ' → SA w0 bor im0 im' ρ' σ' a' w' → Q .normal a' w') → wpList env.P ops Q rest a w
  | [], id, σ, a, w, im, ρ, h, hv, hn => hn _ _ _ _ _ hv h.drop
  | o :: rest, id, σ, a, w, im, ρ, h, hv, hn => by
    unfold vcOps at hv
    unfold wpList
    split at hv
    · rename_i hog
      rw [if_pos (by simp [Region.wanted, hog])]
      left
      have hg : GdOK a none := fun _ _ e => by cases e
      split at hv
      · rename_i pre v hp
        obtain ⟨h1, h2⟩ := all_and hv
        obtain ⟨val, h3, h4⟩ := pop_sound (w := w) h.st.len h.st.slot h.st.blk hg hp h1
        split at h2
        · exact h2.elim
        · rename_i hcl
          exact wp_value h3 (vcOps_sound hΓ rest _ (h.put hcl h4) (bindAV_ok h4 h2) hn)
      · exact eop_sound hΓ h hg hv fun σ' a' w' im' ρ' hk h' => vcOps_sound hΓ rest _ h' hk hn
    · rename_i j b hog
      split at hv
      · exact hv.elim
      · rename_i tc htc
        have hy : yielded ops a.tmps j = match a.tmps[tc]? with | some (.bool b) => some b | _ => none := by
          unfold yielded
          have e : (ops[j]?).bind (·.dst) = some tc := by rw [← htc]; simp
          rw [e]; rfl
        have hw1 : a.tmps[tc]? = some (.bool b) → Region.wanted o (yielded ops a.tmps) = true := fun e => by
          unfold Region.wanted; rw [hog]; dsimp only; rw [hy, e]; simp
        have hw2 : a.tmps[tc]? ≠ some (.bool b) → Region.wanted o (yielded ops a.tmps) = false := fun e => by
          unfold Region.wanted; rw [hog]
          dsimp only
          rw [hy]
          split
          · rename_i b' hb'
            rw [hb'] at e
            cases b <;> cases b' <;> simp_all
          · rfl
        split at hv
        · rename_i pre v hp
          obtain ⟨h1, h2⟩ := under_all hv
          split at h2
          · rename_i hcl hdt
            have hd : ∀ d, o.dst = some d → d ≠ tc := fun d e => by
              rw [e] at hdt
              exact nbeqF hdt
            by_cases hb : a.tmps[tc]? = some (.bool b)
            · rw [if_pos (hw1 hb)]
              left
              have hg : GdOK a (some (tc, b)) := fun _ _ e => by cases e; exact hb
              obtain ⟨val, h3, h4⟩ := pop_sound (w := w) h.st.len h.st.slot h.st.blk hg hp (h1 (gprop_sound h _ _ _ hb))
              exact wp_value h3 (vcOps_sound hΓ rest _ (h.putG hcl hd (fun _ => h4) (fun e => absurd hb e)) (bindG_ok h2) hn)
            · rw [hw2 hb, if_neg (by simp)]
              exact vcOps_sound hΓ rest _ (h.putG hcl hd (fun e => absurd e hb) (fun _ => rfl)) (bindG_ok h2) hn
          · exact h2.elim
        · obtain ⟨σ', hk, h', hD⟩ := decide_sound _ _ _ _ h hv
          split at hk
          · rename_i b' hn'
            have hb2 := hD.boolIs hn'
            split at hk
            · rename_i hbw
              have := beqB_eq.1 hbw
              subst this
              rw [if_pos (hw1 hb2)]
              left
              have hg : GdOK a (some (tc, b')) := fun _ _ e => by cases e; exact hb2
              exact eop_sound hΓ h' hg hk fun σ' a' w' im' ρ' hk h' => vcOps_sound hΓ rest _ h' hk hn
            · rename_i hbw
              have hne : a.tmps[tc]? ≠ some (.bool b) := fun e => by
                rw [hb2] at e
                simp only [Option.some.injEq, Value.bool.injEq] at e
                rw [e] at hbw
                have := beqB_eq.2 (rfl : b = b)
                rw [this] at hbw; cases hbw
              rw [hw2 hne, if_neg (by simp)]
              split at hk
              · exact hk.elim
              · rename_i hcl
                exact vcOps_sound hΓ rest _ (h'.put hcl undef_rep) hk hn
          · rename_i hn'
            have hne := hD.not (fun b e => hn' b e) b
            rw [hw2 hne, if_neg (by simp)]
            split at hk
            · exact hk.elim
            · rename_i hcl
              exact vcOps_sound hΓ rest _ (h'.put hcl undef_rep) hk hn
end
end Go.Eng
