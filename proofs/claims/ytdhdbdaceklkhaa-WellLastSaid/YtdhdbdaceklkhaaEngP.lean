import Derived.Test.YtdhdbdaceklkhaaEngO
namespace Go.Eng
open Go
set_option linter.unusedVariables false
set_option linter.unusedSimpArgs false

section
variable {w0 w : World} {bor im0 im : Nat → Prop} {ρ : Ids} {σ : AS} {a : Act}

theorem closedL_nth {ks : List Nat} : ∀ {l : List AV}, closedL ks l = true → ∀ j, closedAV ks (nth l j) = true
  | [], _, j => rfl
  | x :: r, h, j => by
    simp only [closedL, Bool.and_eq_true] at h
    cases j with
    | zero => exact h.1
    | succ j => exact closedL_nth h.2 j

theorem closed_restr {ks : List Nat} {v : Value} {x : AV} (h : Rep w im ρ v x) (hc : closedAV ks x = true) : Rep w im (restr ks ρ) v x := by
  have hρ : ∀ {ρ : Ids} {i u}, memN i ks = true → ρ i = some u → restr ks ρ i = some u := fun {ρ i u} hm hu => by unfold restr; rw [if_pos (memN_iff.1 hm)]; exact hu
  induction h with
  | int h => exact .int h
  | bool => exact .bool
  | str h => exact .str h
  | nilptr => exact .nilptr
  | nilsl => exact .nilsl
  | nilfn => exact .nilfn
  | sl0 => exact .sl0
  | sl hb hn hcap hm vals hcell hone hrep ih => exact .sl hb hn hcap hm vals hcell hone hrep
  | iref hb ho vals hcell hone hrep ih => exact .iref hb ho vals hcell hone hrep
  | row0 h => exact .row0 (hρ hc h)
  | row h hle ho hn hm hs => exact .row (hρ hc h) hle ho hn hm hs
  | ptr h => exact .ptr (hρ hc h)
  | eptr h ho => exact .eptr (hρ hc h) ho
  | agg hl hone h ih => exact .agg hl hone fun j v hj => ih j v hj (closedL_nth hc j)
  | tup hl h ih => exact .tup hl fun j v hj => ih j v hj (closedL_nth hc j)
  | fn hl hl' h h' ih ih' =>
    simp only [closedAV, Bool.and_eq_true] at hc
    exact .fn hl hl' (fun j v hj => ih j v hj (closedL_nth hc.1 j)) (fun j v hj => ih' j v hj (closedL_nth hc.2 j))
  | dead => exact .dead

theorem noImL_nth : ∀ {l : List AV}, noImLB l = true → ∀ j, noImB (nth l j) = true
  | [], _, j => rfl
  | x :: r, h, j => by
    simp only [noImLB, Bool.and_eq_true] at h
    cases j with
    | zero => exact h.1
    | succ j => exact noImL_nth h.2 j

theorem noIm_rep {im' : Nat → Prop} {v : Value} {x : AV} (h : Rep w im ρ v x) (hc : noImB x = true) : Rep w im' ρ v x := by
  induction h with
  | int h => exact .int h
  | bool => exact .bool
  | str h => exact .str h
  | nilptr => exact .nilptr
  | nilsl => exact .nilsl
  | nilfn => exact .nilfn
  | sl0 => exact .sl0
  | sl hb hn hcap hm vals hcell hone hrep ih => cases hc
  | iref hb ho vals hcell hone hrep ih => cases hc
  | row0 h => exact .row0 h
  | row h hle ho hn hm hs => exact .row h hle ho hn hm hs
  | ptr h => exact .ptr h
  | eptr h ho => exact .eptr h ho
  | agg hl hone h ih => exact .agg hl hone fun j v hj => ih j v hj (noImL_nth hc j)
  | tup hl h ih => exact .tup hl fun j v hj => ih j v hj (noImL_nth hc j)
  | fn hl hl' h h' ih ih' =>
    simp only [noImB, Bool.and_eq_true] at hc
    exact .fn hl hl' (fun j v hj => ih j v hj (noImL_nth hc.1 j)) (fun j v hj => ih' j v hj (noImL_nth hc.2 j))
  | dead => exact .dead

theorem scal_noIm {c : Nat} (hc : scal c = true) (x : ty c) (j : Nat) : noImB (nth (enc c x) j) = true := by
  have : noImLB (enc c x) = true := by
    match c, x, hc with
    | 0, x, _ => rfl
    | 1, x, _ => rfl
    | 2, x, _ => rfl
    | 3, x, _ => rfl
    | 4, x, _ => rfl
    | 5, x, _ => rfl
  exact noImL_nth this j

theorem blkFree_get : ∀ {F : List Blk}, blkFree F = true → ∀ (j : Nat) (b : Blk), F[j]? = some b → match b with | .cells cs => noImLB cs = true | .row c _ => scal c = true
  | [], _, j, b, h => by simp at h
  | .cells cs :: r, hf, j, b, h => by
    simp only [blkFree, Bool.and_eq_true] at hf
    cases j with
    | zero => simp at h; subst h; exact hf.1
    | succ j => exact blkFree_get hf.2 j b (by simpa using h)
  | .row c _ :: r, hf, j, b, h => by
    simp only [blkFree, Bool.and_eq_true] at hf
    cases j with
    | zero => simp at h; subst h; exact hf.1
    | succ j => exact blkFree_get hf.2 j b (by simpa using h)

theorem free_BRep {im' : Nat → Prop} {ob : Option Nat × Nat} {b : Blk} (h : BRep w im ρ ob b) (hf : match b with | .cells cs => noImLB cs = true | .row c _ => scal c = true) : BRep w im' ρ ob b := by
  cases b with
  | cells cs =>
    obtain ⟨b, cur, e, q1, q2, q3, q4, q5⟩ := h
    exact ⟨b, cur, e, q1, q2, q3, q4, fun j v hj => noIm_rep (q5 j v hj) (noImL_nth hf j)⟩
  | row c xs =>
    obtain ⟨h1, h2⟩ := h
    refine ⟨h1, h2.imp id ?_⟩
    rintro ⟨b, cur, e, cap, q1, q2, q3, q4, q5, q6, q7⟩
    exact ⟨b, cur, e, cap, q1, q2, q3, q4, q5, q6, fun i j x v hx hj hv => noIm_rep (q7 i j x v hx hj hv) (scal_noIm hf x j)⟩

theorem idx_ok : ∀ {l : List Nat} {i : Nat} (n : Nat), i ∈ l → ∃ m, idx l i n = n + m ∧ l[m]? = some i
  | [], i, n, h => by cases h
  | j :: r, i, n, h => by
    unfold idx
    split
    · rename_i e; have := nbeq e; subst this; exact ⟨0, rfl, rfl⟩
    · rename_i e
      rcases List.mem_cons.1 h with e' | e'
      · exact absurd e' (nbeqF e)
      · obtain ⟨m, h1, h2⟩ := idx_ok (n + 1) e'
        exact ⟨m + 1, by omega, by simpa using h2⟩

theorem blksOf_get {L : Locs} {l : List Nat} : ∀ {m : List Nat} {F : List Blk}, blksOf L l m = some F → F.length = m.length ∧
    ∀ (j : Nat) (b : Blk), F[j]? = some b → ∃ i, m[j]? = some i ∧ ∃ b0, lget L i = some b0 ∧ (match b0 with | .cells cs => closedL l cs = true | .row _ _ => True) ∧
      b = match b0 with | .cells cs => .cells (renL (fun i => idx l i 0) cs) | .row c xs => .row c xs
  | [], F, h => by simp [blksOf] at h; subst h; simp
  | i :: r, F, h => by
    unfold blksOf at h
    split at h
    · rename_i cs bs h1 h2
      split at h
      · rename_i hcl
        simp only [Option.some.injEq] at h; subst h
        obtain ⟨h3, h4⟩ := blksOf_get h2
        refine ⟨by simp [h3], fun j b hj => ?_⟩
        cases j with
        | zero => simp at hj; subst hj; exact ⟨i, rfl, _, h1, hcl, rfl⟩
        | succ j => exact h4 j b (by simpa using hj)
      · cases h
    · rename_i c xs bs h1 h2
      simp only [Option.some.injEq] at h; subst h
      obtain ⟨h3, h4⟩ := blksOf_get h2
      refine ⟨by simp [h3], fun j b hj => ?_⟩
      cases j with
      | zero => simp at hj; subst hj; exact ⟨i, rfl, _, h1, trivial, rfl⟩
      | succ j => exact h4 j b (by simpa using hj)
    · cases h

/-- One result. -/
def resRun (tmps : Array Value) : ResultVar → Sem Value
  | .tmp t => pure (tmps.getD t undef)
  | .cell a t => do loadVar t (← asAddr (tmps.getD a undef))
theorem resOne_ok {P : Program} (h : SA w0 bor im0 im ρ σ a w) (hg : σ.gs = []) {r : ResultVar} {x : AV} (hr : resOne P σ r = some x) :
    ∃ v, (resRun a.tmps r).run P w = .ok v w ∧ Rep w im ρ v x := by
  have ht : ∀ t, Rep w im ρ (a.tmps.getD t undef) (nth σ.slots t) := fun t => by
    have hr := h.ev (g := none) (fun _ _ e => by cases e) (.tmp t)
    have e : σ.ev none (.tmp t) = nth σ.slots t := by simp [AS.ev, AS.slot, hg, gget]
    rw [e] at hr
    exact hr
  cases r with
  | tmp t =>
    simp only [resOne, Option.some.injEq] at hr
    subst hr
    exact ⟨_, rfl, ht t⟩
  | cell t d =>
    unfold resOne at hr
    dsimp only at hr
    · split at hr
      · rename_i v hl
        simp only [Option.some.injEq] at hr
        subst hr
        obtain ⟨val, h1, h2⟩ := load_sound h.st.blk (ht t) hl trivial
        have h1 := h1 w (Agr.refl w)
        have hx := ht t
        have : ∃ ad, a.tmps.getD t undef = .pointer (some ad) := by
          generalize a.tmps.getD t undef = u at hx
          generalize nth σ.slots t = y at hx hl
          unfold loadAV at hl
          split at hl
          · obtain ⟨b, m, -, rfl⟩ := hx.inv_ptr; exact ⟨_, rfl⟩
          · obtain ⟨b, m, -, rfl⟩ := hx.inv_eptr; exact ⟨_, rfl⟩
          · cases hx; exact ⟨_, rfl⟩
          · cases hl
        obtain ⟨ad, he⟩ := this
        rw [he] at h1
        refine ⟨val, ?_, h2⟩
        show (do loadVar d (← asAddr (a.tmps.getD t undef)) : Sem Value).run P w = _
        rw [he]
        simp only [Instr.loadAt, Instr.sureAddr, Sem.run_bind, Sem.run_pure, Result.andThen_ok] at h1
        simp only [asAddr, Sem.run_bind, Sem.run_pure, Result.andThen_ok, h1]
      · cases hr
theorem resL_ok {P : Program} (h : SA w0 bor im0 im ρ σ a w) (hg : σ.gs = []) : ∀ (l : List ResultVar) (vs : List AV), resL P σ l = some vs →
    ∃ us : List Value, (l.mapM (resRun a.tmps)).run P w = .ok us w ∧ us.length = vs.length ∧ ∀ (j : Nat) (u : Value), us[j]? = some u → Rep w im ρ u (nth vs j)
  | [], vs, hr => by
    simp only [resL, Option.some.injEq] at hr; subst hr
    exact ⟨[], by simp, rfl, by simp⟩
  | r :: l, vs, hr => by
    unfold resL at hr
    split at hr
    · rename_i x xs hx hxs
      simp only [Option.some.injEq] at hr; subst hr
      obtain ⟨v, h1, h2⟩ := resOne_ok h hg hx
      obtain ⟨us, h3, h4, h5⟩ := resL_ok h hg l xs hxs
      refine ⟨v :: us, ?_, by simp [h4], fun j u hu => ?_⟩
      · simp only [List.mapM_cons, Sem.run_bind, h1, Result.andThen_ok, h3, Sem.run_pure]
      · cases j with
        | zero => simp at hu; subst hu; exact h2
        | succ j => exact h5 j u (by simpa using hu)
    · cases hr
theorem results_ok {P : Program} {fn : Func} (h : SA w0 bor im0 im ρ σ a w) (hg : σ.gs = []) {r : AV} (hr : resAV P σ fn.results.toList = some r) :
    ∃ v, (results fn a.tmps).run P w = .ok v w ∧ Rep w im ρ v r := by
  have hmap : ∀ us, (fn.results.toList.mapM (resRun a.tmps)).run P w = .ok us w → (results fn a.tmps).run P w = .ok (if hs : us.toArray.size = 1 then us.toArray[0] else .tuple us.toArray) w := fun us hu => by
    unfold results
    have e : (fn.results.mapM (m := Sem) fun | .tmp t => pure (a.tmps.getD t undef) | .cell b t => do loadVar t (← asAddr (a.tmps.getD b undef))) = fn.results.mapM (resRun a.tmps) := by
      congr 1
    simp only [Sem.run_bind]
    refine (congrArg (fun s => (Sem.run P s w).andThen _) e).trans ?_
    rw [Array.mapM_eq_mapM_toList]
    simp only [Sem.run_map, hu, Result.andThen_ok, Sem.run_pure]
    try rfl
  unfold resAV at hr
  split at hr
  · rename_i x hx
    simp only [Option.some.injEq] at hr; subst hr
    obtain ⟨us, h1, h2, h3⟩ := resL_ok h hg _ _ hx
    match us, h2 with
    | [u], _ => exact ⟨u, hmap _ h1, h3 0 u rfl⟩
  · rename_i vs hne hx
    simp only [Option.some.injEq] at hr; subst hr
    obtain ⟨us, h1, h2, h3⟩ := resL_ok h hg _ _ hx
    have hn1 : ¬ us.toArray.size = 1 := fun e => by
      have e : us.length = 1 := by simpa using e
      rw [h2] at e
      obtain ⟨x, rfl⟩ := List.length_eq_one_iff.1 e
      exact hne x rfl
    refine ⟨_, hmap _ h1, ?_⟩
    rw [dif_neg hn1]
    exact .tup (by simpa using h2) fun j v hj => h3 j v (by simpa using hj)
  · cases hr

theorem ifP_ok {b : Bool} {p : Prop} (h : ifP b p) : b = true ∧ p := by
  cases b with
  | true => exact ⟨rfl, h⟩
  | false => exact h.elim

theorem finish_sound {P : Program} {fn : Func} {ro : Bool} {k : AV → List (Option Blk) → List Blk → Prop}
    (h : SA w0 (fun _ => False) im0 im ρ σ a w) (hv : finish P ro σ fn.results.toList k) (him0 : ∀ b, im0 b → b < w0.heap.size) :
    ∃ v im' ρ' r F, (results fn a.tmps).run P w = .ok v w ∧ k r [] F ∧ Res ro w0 w im0 im' ρ' v r F := by
  unfold finish at hv
  split at hv
  · rename_i r hr hg
    have hgs := noGs_ok hg
    dsimp only at hv
    generalize hl : reach σ.locs 1000 (ids r []) [] = l at hv
    split at hv
    · rename_i F hF
      obtain ⟨hb, hk⟩ := ifP_ok hv
      simp only [Bool.and_eq_true] at hb
      obtain ⟨⟨hnd, hcl⟩, hro⟩ := hb
      obtain ⟨v, hres, hrep⟩ := results_ok h hgs hr
      obtain ⟨hFl, hF⟩ := blksOf_get hF
      let ρ' : Ids := fun j => (l[j]?).bind ρ
      have hren : ∀ i x, restr l ρ i = some x → ρ' (idx l i 0) = some x := fun i x hx => by
        obtain ⟨h1, h2⟩ := restr_le hx
        obtain ⟨m, h3, h4⟩ := idx_ok 0 h2
        show (l[idx l i 0]?).bind ρ = some x
        rw [h3, Nat.zero_add, h4]
        exact h1
      have hρ' : ∀ j x, ρ' j = some x → ∃ i, l[j]? = some i ∧ ρ i = some x := fun j x hx => by
        have hx : (l[j]?).bind ρ = some x := hx
        cases e : l[j]? with
        | none => rw [e] at hx; cases hx
        | some i => rw [e] at hx; exact ⟨i, rfl, hx⟩
      have hrep' := (closed_restr hrep hcl).ren _ hren
      have hblk : ∀ (j : Nat) (b : Blk), F[j]? = some b → ∃ ob, ρ' j = some ob ∧ BRep w im ρ' ob b := fun j b hj => by
        obtain ⟨i, h1, b0, h2, h3, h4⟩ := hF j b hj
        obtain ⟨ob, h5, h6⟩ := h.st.blk i b0 h2
        refine ⟨ob, by show (l[j]?).bind ρ = some ob; rw [h1]; exact h5, ?_⟩
        rw [h4]
        have : BRep w im (restr l ρ) ob b0 := by
          cases b0 with
          | cells cs =>
            obtain ⟨b, cur, e, q1, q2, q3, q4, q5⟩ := h6
            exact ⟨b, cur, e, q1, q2, q3, q4, fun j v hj => closed_restr (q5 j v hj) (closedL_nth h3 j)⟩
          | row c xs => exact h6
        cases b0 <;> exact this.ren _ hren
      have hdom : ∀ j, F[j]? = none → ρ' j = none := fun j hj => by
        show (l[j]?).bind ρ = none
        have : l[j]? = none := by
          rw [List.getElem?_eq_none_iff] at hj ⊢
          omega
        rw [this]; rfl
      have hinj : ∀ i j b m m', ρ' i = some (some b, m) → ρ' j = some (some b, m') → i = j := fun i j b m m' hi hj => by
        obtain ⟨i1, h1, h2⟩ := hρ' _ _ hi
        obtain ⟨j1, h3, h4⟩ := hρ' _ _ hj
        have e := h.st.inj _ _ _ _ _ h2 h4
        subst e
        exact (List.getElem?_inj (List.getElem?_eq_some_iff.1 h1).1 (nodup_ok hnd)).1 (h1.trans h3.symm)
      have hfresh : ∀ i b m, ρ' i = some (some b, m) → w0.heap.size ≤ b := fun i b m hi => by
        obtain ⟨i1, h1, h2⟩ := hρ' _ _ hi
        exact (h.st.own _ _ _ h2).resolve_right id
      have hbelow : RowKit.Below w0.heap.size w0 w := ⟨h.st.os, h.st.tape, h.st.output, h.st.size, fun b hb => h.st.frame b hb id⟩
      cases ro with
      | false =>
        refine ⟨v, im, ρ', _, F, hres, hk, ?_⟩
        exact { below := hbelow, imold := fun _ => h.st.imold, imnew := fun b hb => (h.st.imnew b hb).elim (fun h1 => .inl ⟨rfl, h1⟩) (fun h1 => h1.elim (fun h2 => .inr ⟨h2, h.st.imlt b hb⟩) (fun h2 => h2.elim)),
                dom := hdom, blk := hblk, inj := hinj, notim := fun i b m hi => by obtain ⟨i1, h1, h2⟩ := hρ' _ _ hi; exact h.st.notim _ _ _ h2, fresh := hfresh, rep := hrep' }
      | true =>
        simp only [Bool.not_true, Bool.false_or, Bool.and_eq_true] at hro
        refine ⟨v, fun _ => False, ρ', _, F, hres, hk, ?_⟩
        exact { below := hbelow, imold := fun e => (by cases e), imnew := fun b hb => hb.elim,
                dom := hdom, blk := fun j b hj => by obtain ⟨ob, h1, h2⟩ := hblk j b hj; have h3 := blkFree_get hro.2 j b hj; exact ⟨ob, h1, by cases b <;> exact free_BRep h2 h3⟩,
                inj := hinj, notim := fun i b m hi hb => hb, fresh := hfresh, rep := (closed_restr (noIm_rep hrep hro.1) hcl).ren _ hren }
    · exact hv.elim
  · exact hv.elim

/-- What holds, told so that no elaborator looks into it. -/
structure Ok (p : Prop) : Prop where
  out : p
theorem Ok.cast {p q : Prop} (e : p = q) (h : p) : Ok q := ⟨e ▸ h⟩

/-- A function's body walked: it does what its spec says. -/
theorem fn_sound {env : Env} (hΓ : ∀ f s, env.spec f = some s → Holds env.P f s) {f : FuncId} {fn : Func} {s : Spec} (hf : env.P.funcs[f]? = some fn)
    (hc : ∀ args w, (callFunc f args).run env.P w = .ok (.enter f args) w)
    (hv : ∀ args k, s.run args [] k → Nat.ble args.length fn.ntmps = true ∧ ∃ loops cuts, Ok (fnVC { env with loops := loops, cuts := cuts } s.ro fn args k)) : Holds env.P f s := by
  intro w im vals args k o a next Q him hlen hrep hrun hnext
  rw [hc]
  obtain ⟨hle, loops, cuts, ⟨hv⟩⟩ := hv args k hrun
  unfold fnVC at hv
  split at hv
  · exact hv.elim
  · rename_i c hb
    show Calls env.P f vals w _
    refine calls_of_wp hf hb ?_
    have hle := Nat.le_of_ble_eq_true hle
    have hpad : (pad args fn.ntmps).length = fn.ntmps := by simp [pad]; omega
    have h0 : SA w (fun _ => False) im im noIds ⟨pad args fn.ntmps, [], []⟩ { tmps := vals ++ Array.replicate (fn.ntmps - vals.size) undef, defers := [] } w := by
      refine ⟨⟨rfl, by simp [hpad]; omega, fun i v hi => ?_, fun _ _ => rfl, fun _ _ e => (by cases e), fun _ _ _ _ _ e => (by cases e), fun _ _ _ e => (by cases e), him, fun _ h => h, fun _ h => .inl h, fun _ _ _ e => (by cases e), rfl, rfl, rfl, Nat.le_refl _, fun _ _ _ => rfl⟩, List.nodup_nil⟩
      show Rep w im noIds v (nth (pad args fn.ntmps) i)
      dsimp only at hi
      rw [Array.getElem?_append] at hi
      unfold pad
      rw [nth_eq]
      split at hi
      · rename_i h1
        rw [List.getElem?_append_left (by omega), ← nth_eq]
        exact hrep i v hi
      · rename_i h1
        rw [List.getElem?_append_right (by omega)]
        rw [Array.getElem?_replicate] at hi
        split at hi
        · rename_i h2
          simp only [Option.some.injEq] at hi; subst hi
          rw [List.getElem?_replicate, if_pos (by omega)]
          exact undef_rep
        · cases hi
    refine vc_sound hΓ c (env := { env with loops := loops, cuts := cuts }) rfl rfl h0 hv fun e σ' a' w' im' ρ' hk h' => ?_
    have key : finish env.P s.ro σ' fn.results.toList k → a'.defers = [] ∧ ∃ v, (results fn a'.tmps).run env.P w' = .ok v w' ∧ next (a.put o.dst v) w' := fun hk => by
      obtain ⟨v, im2, ρ2, r, F, h1, h2, h3⟩ := finish_sound h' hk him
      exact ⟨h'.st.defers, v, h1, hnext _ _ _ _ _ _ h2 h3⟩
    cases e with
    | norm => exact key hk
    | ret => exact key hk
    | exit i => exact hk.elim
end

/-- A row of slots, some of them told. -/
def mkG : Nat → Nat → List (Nat × AV) → List AV
  | 0, _, _ => []
  | n + 1, i, [] => .dead :: mkG n (i + 1) []
  | n + 1, i, (j, a) :: r => match Nat.beq i j with
    | true => a :: mkG n (i + 1) r
    | false => .dead :: mkG n (i + 1) ((j, a) :: r)
def mk (n : Nat) (l : List (Nat × AV)) : List AV := mkG n 0 l

theorem br_intro {b : Bool} {A B : Prop} (h1 : b = true → A) (h2 : b = false → B) : br b A B := by cases b; exact h2 rfl; exact h1 rfl
theorem brd {p : Prop} [Decidable p] {A B : Prop} (h1 : p → A) (h2 : ¬ p → B) : br (decide p) A B := by
  by_cases h : p
  · rw [decide_eq_true h]; exact h1 h
  · rw [decide_eq_false h]; exact h2 h
end Go.Eng
