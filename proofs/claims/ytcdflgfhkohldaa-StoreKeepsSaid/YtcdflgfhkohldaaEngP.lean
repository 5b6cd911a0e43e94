import Derived.Test.YtcdflgfhkohldaaEngO
namespace Go.Eng
open Go
set_option linter.unusedVariables false
set_option linter.unusedSimpArgs false
section
variable {w0 w : World} {bor : Bor} {im0 im : Nat → Prop} {ρ : Ids} {σ : AS} {a : Act}
theorem noImL_nth : ∀ {l : List AV}, noImLB l = true → ∀ j, noImB (nth l j) = true
  | [], _, j => rfl
  | x :: r, h, j => by
    simp only [noImLB, Bool.and_eq_true] at h
    cases j with
    | zero => exact h.1
    | succ j => exact noImL_nth h.2 j
theorem noIm_rep {im' : Nat → Prop} {v : Value} {x : AV} (h : Rep w im ρ v x) (hc : noImB x = true) : Rep w im' ρ v x := by
  induction h with
  | int h => exact .int h
  | bool => exact .bool
  | str h => exact .str h
  | nilptr => exact .nilptr
  | nilsl => exact .nilsl
  | nilfn => exact .nilfn
  | sl0 => exact .sl0
  | emp => exact .emp
  | sl hb hn hcap hm vals hcell hone hrep ih => cases hc
  | iref hb ho vals hcell hone hrep ih => cases hc
  | row0 h => exact .row0 h
  | row h hle ho hn hm hs => exact .row h hle ho hn hm hs
  | rowE h ho hm => exact .rowE h ho hm
  | ptr h => exact .ptr h
  | eptr h ho => exact .eptr h ho
  | agg hl hone h ih => exact .agg hl hone fun j v hj => ih j v hj (noImL_nth hc j)
  | tup hl h ih => exact .tup hl fun j v hj => ih j v hj (noImL_nth hc j)
  | fn hl hl' h h' ih ih' =>
    simp only [noImB, Bool.and_eq_true] at hc
    exact .fn hl hl' (fun j v hj => ih j v hj (noImL_nth hc.1 j)) (fun j v hj => ih' j v hj (noImL_nth hc.2 j))
  | dead => exact .dead
  | val => exact .val
  | both h h' => simp [noImB] at hc
  | wsl hn hm h0 h => simp [noImB] at hc
  | wref => simp [noImB] at hc
  | anyb h => exact .anyb h
theorem scal_noIm {c : Nat} (hc : scal c = true) (x : ty c) (j : Nat) : noImB (nth (enc c x) j) = true := by
  have : noImLB (enc c x) = true := by
    match c, x, hc with
    | 0, x, _ => rfl
    | 1, x, _ => rfl
    | 2, x, _ => rfl
    | 3, x, _ => rfl
    | 4, x, _ => rfl
    | 5, x, _ => rfl
  exact noImL_nth this j
theorem blkFree_get : ∀ {F : List Blk}, blkFree F = true → ∀ (j : Nat) (b : Blk), F[j]? = some b → match b with | .cells cs => noImLB cs = true | .row c _ => scal c = true
  | [], _, j, b, h => by simp at h
  | .cells cs :: r, hf, j, b, h => by
    simp only [blkFree, Bool.and_eq_true] at hf
    cases j with
    | zero => simp at h; subst h; exact hf.1
    | succ j => exact blkFree_get hf.2 j b (by simpa using h)
  | .row c _ :: r, hf, j, b, h => by
    simp only [blkFree, Bool.and_eq_true] at hf
    cases j with
    | zero => simp at h; subst h; exact hf.1
    | succ j => exact blkFree_get hf.2 j b (by simpa using h)
theorem free_BRep {im' : Nat → Prop} {ob : Option Nat × Nat} {b : Blk} (h : BRep w im ρ ob b) (hf : match b with | .cells cs => noImLB cs = true | .row c _ => scal c = true) : BRep w im' ρ ob b := by
  cases b with
  | cells cs =>
    obtain ⟨b, cur, e, q1, q2, q3, q4, q5⟩ := h
    exact ⟨b, cur, e, q1, q2, q3, q4, fun j v hj => noIm_rep (q5 j v hj) (noImL_nth hf j)⟩
  | row c xs =>
    obtain ⟨h1, h2⟩ := h
    refine ⟨h1, h2.imp id ?_⟩
    rintro ⟨b, cur, e, cap, q1, q2, q3, q4, q5, q6, q7⟩
    exact ⟨b, cur, e, cap, q1, q2, q3, q4, q5, q6, fun i j x v hx hj hv => noIm_rep (q7 i j x v hx hj hv) (scal_noIm hf x j)⟩
theorem blksOf_get {L : Locs} {l : List Nat} : ∀ {m : List Nat} {F : List Blk}, blksOf L l m = some F → F.length = m.length ∧
    ∀ (j : Nat) (b : Blk), F[j]? = some b → ∃ i, m[j]? = some i ∧ ∃ b0, lget L i = some b0 ∧ (match b0 with | .cells cs => closedL l cs = true | .row _ _ => True) ∧
      b = match b0 with | .cells cs => .cells (renL (fun i => idx l i 0) cs) | .row c xs => .row c xs
  | [], F, h => by simp [blksOf] at h; subst h; simp
  | i :: r, F, h => by
    unfold blksOf at h
    split at h
    · rename_i cs bs h1 h2
      split at h
      · rename_i hcl
        simp only [Option.some.injEq] at h; subst h
        obtain ⟨h3, h4⟩ := blksOf_get h2
        refine ⟨by simp [h3], fun j b hj => ?_⟩
        cases j with
        | zero => simp at hj; subst hj; exact ⟨i, rfl, _, h1, hcl, rfl⟩
        | succ j => exact h4 j b (by simpa using hj)
      · cases h
    · rename_i c xs bs h1 h2
      simp only [Option.some.injEq] at h; subst h
      obtain ⟨h3, h4⟩ := blksOf_get h2
      refine ⟨by simp [h3], fun j b hj => ?_⟩
      cases j with
      | zero => simp at hj; subst hj; exact ⟨i, rfl, _, h1, trivial, rfl⟩
      | succ j => exact h4 j b (by simpa using hj)
    · cases h
def resRun (tmps : Array Value) : ResultVar → Sem Value
  | .tmp t => pure (tmps.getD t undef)
  | .cell a t => do loadVar t (← asAddr (tmps.getD a undef))
theorem resOne_ok {P : Program} (h : SA w0 bor im0 im ρ σ a w) (hg : σ.gs = []) {r : ResultVar} {x : AV} (hr : resOne P σ r = some x) :
    ∃ v, (resRun a.tmps r).run P w = .ok v w ∧ Rep w im ρ v x := by
  have ht : ∀ t, Rep w im ρ (a.tmps.getD t undef) (nth σ.slots t) := fun t => by
    have hr := h.ev (g := none) (fun _ _ e => by cases e) (.tmp t)
    have e : σ.ev none (.tmp t) = nth σ.slots t := by simp [AS.ev, AS.slot, hg, gget]
    rw [e] at hr
    exact hr
  cases r with
  | tmp t =>
    simp only [resOne, Option.some.injEq] at hr
    subst hr
    exact ⟨_, rfl, ht t⟩
  | cell t d =>
    unfold resOne at hr
    dsimp only at hr
    · split at hr
      · rename_i v hl
        simp only [Option.some.injEq] at hr
        subst hr
        obtain ⟨val, h1, h2⟩ := load_sound h.st.blk (ht t) hl trivial
        have h1 := h1 w (Agr.refl w)
        have hx := ht t
        have : ∃ ad, a.tmps.getD t undef = .pointer (some ad) := by
          generalize a.tmps.getD t undef = u at hx
          generalize nth σ.slots t = y at hx hl
          unfold loadAV at hl
          split at hl
          · obtain ⟨b, m, -, rfl⟩ := hx.inv_ptr; exact ⟨_, rfl⟩
          · obtain ⟨b, m, -, rfl⟩ := hx.inv_eptr; exact ⟨_, rfl⟩
          · cases hx; exact ⟨_, rfl⟩
          · clear hl; cases hx; exact ⟨_, rfl⟩
          · cases hl
        obtain ⟨ad, he⟩ := this
        rw [he] at h1
        refine ⟨val, ?_, h2⟩
        show (do loadVar d (← asAddr (a.tmps.getD t undef)) : Sem Value).run P w = _
        rw [he]
        simp only [Instr.loadAt, Instr.sureAddr, Sem.run_bind, Sem.run_pure, Result.andThen_ok] at h1
        simp only [asAddr, Sem.run_bind, Sem.run_pure, Result.andThen_ok, h1]
      · cases hr
theorem resL_ok {P : Program} (h : SA w0 bor im0 im ρ σ a w) (hg : σ.gs = []) : ∀ (l : List ResultVar) (vs : List AV), resL P σ l = some vs →
    ∃ us : List Value, (l.mapM (resRun a.tmps)).run P w = .ok us w ∧ us.length = vs.length ∧ ∀ (j : Nat) (u : Value), us[j]? = some u → Rep w im ρ u (nth vs j)
  | [], vs, hr => by
    simp only [resL, Option.some.injEq] at hr; subst hr
    exact ⟨[], by simp, rfl, by simp⟩
  | r :: l, vs, hr => by
    unfold resL at hr
    split at hr
    · rename_i x xs hx hxs
      simp only [Option.some.injEq] at hr; subst hr
      obtain ⟨v, h1, h2⟩ := resOne_ok h hg hx
      obtain ⟨us, h3, h4, h5⟩ := resL_ok h hg l xs hxs
      refine ⟨v :: us, ?_, by simp [h4], fun j u hu => ?_⟩
      · simp only [List.mapM_cons, Sem.run_bind, h1, Result.andThen_ok, h3, Sem.run_pure]
      · cases j with
        | zero => simp at hu; subst hu; exact h2
        | succ j => exact h5 j u (by simpa using hu)
    · cases hr
theorem results_ok {P : Program} {fn : Func} (h : SA w0 bor im0 im ρ σ a w) (hg : σ.gs = []) {r : AV} (hr : resAV P σ fn.results.toList = some r) :
    ∃ v, (results fn a.tmps).run P w = .ok v w ∧ Rep w im ρ v r := by
  have hmap : ∀ us, (fn.results.toList.mapM (resRun a.tmps)).run P w = .ok us w → (results fn a.tmps).run P w = .ok (if hs : us.toArray.size = 1 then us.toArray[0] else .tuple us.toArray) w := fun us hu => by
    unfold results
    have e : (fn.results.mapM (m := Sem) fun | .tmp t => pure (a.tmps.getD t undef) | .cell b t => do loadVar t (← asAddr (a.tmps.getD b undef))) = fn.results.mapM (resRun a.tmps) := by
      congr 1
    simp only [Sem.run_bind]
    refine (congrArg (fun s => (Sem.run P s w).andThen _) e).trans ?_
    rw [Array.mapM_eq_mapM_toList]
    simp only [Sem.run_map, hu, Result.andThen_ok, Sem.run_pure]
    try rfl
  unfold resAV at hr
  split at hr
  · rename_i x hx
    simp only [Option.some.injEq] at hr; subst hr
    obtain ⟨us, h1, h2, h3⟩ := resL_ok h hg _ _ hx
    match us, h2 with
    | [u], _ => exact ⟨u, hmap _ h1, h3 0 u rfl⟩
  · rename_i vs hne hx
    simp only [Option.some.injEq] at hr; subst hr
    obtain ⟨us, h1, h2, h3⟩ := resL_ok h hg _ _ hx
    have hn1 : ¬ us.toArray.size = 1 := fun e => by
      have e : us.length = 1 := by simpa using e
      rw [h2] at e
      obtain ⟨x, rfl⟩ := List.length_eq_one_iff.1 e
      exact hne x rfl
    refine ⟨_, hmap _ h1, ?_⟩
    rw [dif_neg hn1]
    exact .tup (by simpa using h2) fun j v hj => h3 j v (by simpa using hj)
  · cases hr
theorem ifP_ok {b : Bool} {p : Prop} (h : ifP b p) : b = true ∧ p := by
  cases b with
  | true => exact ⟨rfl, h⟩
  | false => exact h.elim
theorem finish_sound {P : Program} {fn : Func} {ro : Bool} {k : AV → List (Option Blk) → List Blk → Prop}
    (h : SA w0 noBor im0 im ρ σ a w) (hv : finish P ro σ fn.results.toList k) (him0 : ∀ b, im0 b → b < w0.heap.size) :
    ∃ v im' ρ' r F, (results fn a.tmps).run P w = .ok v w ∧ k r [] F ∧ Res ro w0 w im0 im' ρ' v r F := by
  unfold finish at hv
  split at hv
  · rename_i r hr hg
    have hgs := noGs_ok hg
    dsimp only at hv
    generalize hl : reach σ.locs 1000 (ids r []) [] = l at hv
    split at hv
    · rename_i F hF
      obtain ⟨hb, hk⟩ := ifP_ok hv
      simp only [Bool.and_eq_true] at hb
      obtain ⟨⟨hnd, hcl⟩, hro⟩ := hb
      obtain ⟨v, hres, hrep⟩ := results_ok h hgs hr
      obtain ⟨hFl, hF⟩ := blksOf_get hF
      let ρ' : Ids := fun j => (l[j]?).bind ρ
      have hren : ∀ i x, restr l ρ i = some x → ρ' (idx l i 0) = some x := fun i x hx => by
        obtain ⟨h1, h2⟩ := restr_le hx
        obtain ⟨m, h3, h4⟩ := idx_ok 0 h2
        show (l[idx l i 0]?).bind ρ = some x
        rw [h3, Nat.zero_add, h4]
        exact h1
      have hρ' : ∀ j x, ρ' j = some x → ∃ i, l[j]? = some i ∧ ρ i = some x := fun j x hx => by
        have hx : (l[j]?).bind ρ = some x := hx
        cases e : l[j]? with
        | none => rw [e] at hx; cases hx
        | some i => rw [e] at hx; exact ⟨i, rfl, hx⟩
      have hrep' := (closed_restr hrep hcl).ren _ hren
      have hblk : ∀ (j : Nat) (b : Blk), F[j]? = some b → ∃ ob, ρ' j = some ob ∧ BRep w im ρ' ob b := fun j b hj => by
        obtain ⟨i, h1, b0, h2, h3, h4⟩ := hF j b hj
        obtain ⟨ob, h5, h6⟩ := h.st.blk i b0 h2
        refine ⟨ob, by show (l[j]?).bind ρ = some ob; rw [h1]; exact h5, ?_⟩
        rw [h4]
        have : BRep w im (restr l ρ) ob b0 := by
          cases b0 with
          | cells cs =>
            obtain ⟨b, cur, e, q1, q2, q3, q4, q5⟩ := h6
            exact ⟨b, cur, e, q1, q2, q3, q4, fun j v hj => closed_restr (q5 j v hj) (closedL_nth h3 j)⟩
          | row c xs => exact h6
        cases b0 <;> exact this.ren _ hren
      have hdom : ∀ j, F[j]? = none → ρ' j = none := fun j hj => by
        show (l[j]?).bind ρ = none
        have : l[j]? = none := by
          rw [List.getElem?_eq_none_iff] at hj ⊢
          omega
        rw [this]; rfl
      have hinj : ∀ i j b m m', ρ' i = some (some b, m) → ρ' j = some (some b, m') → i = j := fun i j b m m' hi hj => by
        obtain ⟨i1, h1, h2⟩ := hρ' _ _ hi
        obtain ⟨j1, h3, h4⟩ := hρ' _ _ hj
        have e := h.st.inj _ _ _ _ _ h2 h4
        subst e
        exact (List.getElem?_inj (List.getElem?_eq_some_iff.1 h1).1 (nodup_ok hnd)).1 (h1.trans h3.symm)
      have hfresh : ∀ i b m, ρ' i = some (some b, m) → w0.heap.size ≤ b := fun i b m hi => by
        obtain ⟨i1, h1, h2⟩ := hρ' _ _ hi
        exact (h.st.own _ _ _ h2).resolve_right id
      have hbelow : RowKit.Below w0.heap.size w0 w := ⟨h.st.os, h.st.tape, h.st.output, h.st.size, fun b hb => h.st.frame b hb id⟩
      cases ro with
      | false =>
        refine ⟨v, im, ρ', _, F, hres, hk, ?_⟩
        exact { below := hbelow, imold := fun _ => h.st.imold, imnew := fun b hb => (h.st.imnew b hb).elim (fun h1 => .inl ⟨rfl, h1⟩) (fun h1 => h1.elim (fun h2 => .inr ⟨h2, h.st.imlt b hb⟩) (fun h2 => h2.elim)),
                dom := hdom, blk := hblk, inj := hinj, notim := fun i b m hi => by obtain ⟨i1, h1, h2⟩ := hρ' _ _ hi; exact h.st.notim _ _ _ h2, fresh := hfresh, rep := hrep' }
      | true =>
        simp only [Bool.not_true, Bool.false_or, Bool.and_eq_true] at hro
        refine ⟨v, fun _ => False, ρ', _, F, hres, hk, ?_⟩
        exact { below := hbelow, imold := fun e => (by cases e), imnew := fun b hb => hb.elim,
                dom := hdom, blk := fun j b hj => by obtain ⟨ob, h1, h2⟩ := hblk j b hj; have h3 := blkFree_get hro.2 j b hj; exact ⟨ob, h1, by cases b <;> exact free_BRep h2 h3⟩,
                inj := hinj, notim := fun i b m hi hb => hb, fresh := hfresh, rep := (closed_restr (noIm_rep hrep hro.1) hcl).ren _ hren }
    · exact hv.elim
  · exact hv.elim
theorem bigs_mem : ∀ {l : List Nat} {i : Nat}, i ∈ bigs l ↔ i ∈ l ∧ 900 ≤ i
  | [], i => by simp [bigs]
  | j :: r, i => by
    have ih := bigs_mem (l := r) (i := i)
    unfold bigs
    split
    · rename_i h
      have h := Nat.le_of_ble_eq_true h
      rw [List.mem_cons, List.mem_cons, ih]
      constructor
      · rintro (rfl | ⟨h1, h2⟩)
        · exact ⟨.inl rfl, h⟩
        · exact ⟨.inr h1, h2⟩
      · rintro ⟨rfl | h1, h2⟩
        · exact .inl rfl
        · exact .inr ⟨h1, h2⟩
    · rename_i h
      have h : ¬ 900 ≤ j := fun e => by rw [Nat.ble_eq_true_of_le e] at h; cases h
      rw [List.mem_cons, ih]
      constructor
      · rintro ⟨h1, h2⟩; exact ⟨.inr h1, h2⟩
      · rintro ⟨rfl | h1, h2⟩
        · exact absurd h2 h
        · exact ⟨h1, h2⟩
theorem bigs_nodup : ∀ {l : List Nat}, l.Nodup → (bigs l).Nodup
  | [], _ => List.nodup_nil
  | j :: r, h => by
    have h := List.nodup_cons.1 h
    unfold bigs
    split
    · exact List.nodup_cons.2 ⟨fun hm => h.1 (bigs_mem.1 hm).1, bigs_nodup h.2⟩
    · exact bigs_nodup h.2
theorem backG_get {L : Locs} {l : List Nat} {f : Nat → Nat} {own : List Bool} : ∀ {n j : Nat} {bs : List (Option Blk)}, backG L l f own j n = some bs → bs.length = n ∧
    ∀ i, i < n → (nthB own (j + i) = true ∧ bs[i]? = some none) ∨ (nthB own (j + i) = false ∧ ∃ b, bs[i]? = some (some b) ∧ blkG L l f (j + i) = some b)
  | 0, j, bs, h => by simp [backG] at h; subst h; simp
  | n + 1, j, bs, h => by
    unfold backG at h
    split at h
    · rename_i ho
      split at h
      · rename_i bs' h1
        simp only [Option.some.injEq] at h; subst h
        obtain ⟨h2, h3⟩ := backG_get h1
        refine ⟨by simp [h2], fun i hi => ?_⟩
        cases i with
        | zero => exact .inl ⟨ho, rfl⟩
        | succ i =>
          have := h3 i (by omega)
          rw [show j + 1 + i = j + (i + 1) by omega] at this
          simpa using this
      · cases h
    · rename_i ho
      split at h
      · rename_i b bs' hb h1
        simp only [Option.some.injEq] at h; subst h
        obtain ⟨h2, h3⟩ := backG_get h1
        refine ⟨by simp [h2], fun i hi => ?_⟩
        cases i with
        | zero => exact .inr ⟨ho, b, rfl, hb⟩
        | succ i =>
          have := h3 i (by omega)
          rw [show j + 1 + i = j + (i + 1) by omega] at this
          simpa using this
      · cases h
def borOf (ρ0 : Ids) : Bor := ⟨fun b => ∃ i m, ρ0 i = some (some b, m), ρ0, []⟩
theorem finishB_sound {P : Program} {fn : Func} {own : List Bool} {ρ0 : Ids} {B : List Blk} {k : AV → List (Option Blk) → List Blk → Prop} (hnB : B.length ≤ 100)
    (hL : Lent w0 im0 ρ0 (lentL own 0 B)) (h : SA w0 (borOf ρ0) im0 im ρ σ a w) (hv : finishB P own B.length σ fn.results.toList k) (him0 : ∀ b, im0 b → b < w0.heap.size) :
    ∃ v im' ρ' r bs F, (results fn a.tmps).run P w = .ok v w ∧ k r bs F ∧ ResB w0 w im0 im' ρ0 ρ' v r B.length bs F := by
  unfold finishB at hv
  split at hv
  · rename_i r hr hg
    have hgs := noGs_ok hg
    dsimp only at hv
    generalize hl : reach σ.locs 1000 (pins own 0 B.length ++ ids r []) [] = l at hv
    split at hv
    · rename_i F bs hF hbs
      obtain ⟨hb, hk⟩ := ifP_ok hv
      simp only [Bool.and_eq_true] at hb
      obtain ⟨hnd, hcl⟩ := hb
      have hnd := nodup_ok hnd
      obtain ⟨v, hres, hrep⟩ := results_ok h hgs hr
      obtain ⟨hFl, hFg⟩ := blksG_get hF
      obtain ⟨hbl, hbg⟩ := backG_get hbs
      -- a number below 900 means what it meant
      have hpin : ∀ i x, i < 900 → ρ i = some x → ρ0 i = some x ∧ i < B.length ∧ nthB own i = false := fun i x hi hx => by
        have h0 : ρ0 i = some x := h.st.pin i x hi hx
        have hne : lget (lentL own 0 B) i ≠ none := fun e => by rw [hL.dom i e] at h0; cases h0
        rw [lget_lentL _ _ _ _ (by omega), if_pos hi] at hne
        split at hne
        · exact absurd rfl hne
        · rename_i ho
          simp only [Nat.not_lt_zero, false_or] at ho
          refine ⟨h0, ?_, by simpa using ho⟩
          rcases Nat.lt_or_ge i B.length with g | g
          · exact g
          · rw [List.getElem?_eq_none (by simpa using g)] at hne; exact absurd rfl hne
      let ρ' : Ids := fun i => if i < B.length then ρ i else ((bigs l)[i - B.length]?).bind ρ
      have hlt : ∀ i, i < B.length → ρ' i = ρ i := fun i hi => by show (if i < B.length then ρ i else _) = _; rw [if_pos hi]
      have hge : ∀ i, B.length ≤ i → ρ' i = ((bigs l)[i - B.length]?).bind ρ := fun i hi => by show (if i < B.length then ρ i else _) = _; rw [if_neg (by omega)]
      have hf : ∀ i x, restr l ρ i = some x → ρ' (gnum B.length (bigs l) i) = some x := fun i x hx => by
        obtain ⟨h1, h2⟩ := restr_le hx
        unfold gnum
        split
        · rename_i h9
          have h9 := Nat.le_of_ble_eq_true h9
          obtain ⟨m, h3, h4⟩ := idx_ok 0 (bigs_mem.2 ⟨h2, h9⟩)
          rw [h3, hge _ (by omega), show B.length + (0 + m) - B.length = m by omega, h4]
          exact h1
        · rename_i h9
          have h9 : i < 900 := by
            rcases Nat.lt_or_ge i 900 with g | g
            · exact g
            · rw [Nat.ble_eq_true_of_le g] at h9; cases h9
          rw [hlt _ (hpin i x h9 h1).2.1]
          exact h1
      have hbig : ∀ i x, B.length ≤ i → ρ' i = some x → ∃ i', (bigs l)[i - B.length]? = some i' ∧ ρ i' = some x ∧ 900 ≤ i' := fun i x hi hx => by
        rw [hge i hi] at hx
        cases e : (bigs l)[i - B.length]? with
        | none => rw [e] at hx; cases hx
        | some i' => rw [e] at hx; exact ⟨i', rfl, hx, (bigs_mem.1 (List.mem_of_getElem? e)).2⟩
      refine ⟨v, im, ρ', _, bs, F, hres, hk, ?_⟩
      exact {
        size := h.st.size
        os := h.st.os
        tape := h.st.tape
        output := h.st.output
        frame := fun b hb hn => h.st.frame b hb fun ⟨i, m, hi⟩ => hn i m hi
        shp := fun b hb => by
          rcases Classical.em (∃ i m, ρ0 i = some (some b, m)) with e | e
          · exact h.st.shp b e
          · exact shape_of (h.st.frame b hb e)
        imold := h.st.imold
        imlt := h.st.imlt
        imnew := h.st.imnew
        len := hbl
        dom := fun i hi => by
          unfold LR at hi
          split at hi
          · rename_i hlt'
            rw [hlt i hlt']
            rcases hbg i hlt' with ⟨g1, g2⟩ | ⟨g1, b, g2, g3⟩
            · cases hx : ρ i with
              | none => rfl
              | some x =>
                have := (hpin i x (by omega) hx).2.2
                rw [Nat.zero_add] at g1
                rw [g1] at this; cases this
            · rw [g2] at hi; cases hi
          · rename_i hge'
            rw [hge i (by omega)]
            have : (bigs l)[i - B.length]? = none := by
              rw [List.getElem?_eq_none_iff] at hi ⊢
              omega
            rw [this]; rfl
        blk := fun i b hi => by
          unfold LR at hi
          split at hi
          · rename_i hlt'
            rcases hbg i hlt' with ⟨g1, g2⟩ | ⟨g1, b', g2, g3⟩
            · rw [g2] at hi; cases hi
            · rw [g2] at hi
              simp only [Option.join_some, Option.some.injEq] at hi
              subst hi
              rw [Nat.zero_add] at g3
              obtain ⟨ob, g4, g5⟩ := blkG_ok (ρ2 := ρ') g3 (fun b hb => h.st.blk i b hb) hf
              exact ⟨ob, by rw [hlt i hlt']; exact g4, g5⟩
          · rename_i hge'
            obtain ⟨i', g1, g2⟩ := hFg _ b hi
            obtain ⟨ob, g4, g5⟩ := blkG_ok (ρ2 := ρ') g2 (fun b hb => h.st.blk i' b hb) hf
            exact ⟨ob, by rw [hge i (by omega), g1]; exact g4, g5⟩
        pin := fun i x hi hx => by
          rw [hlt i hi] at hx
          exact (hpin i x (by omega) hx).1
        inj := fun i j b m m' hi hj => by
          rcases Nat.lt_or_ge i B.length with g | g <;> rcases Nat.lt_or_ge j B.length with g' | g'
          · rw [hlt i g] at hi; rw [hlt j g'] at hj
            exact h.st.inj _ _ _ _ _ hi hj
          · rw [hlt i g] at hi
            obtain ⟨j', e1, e2, e3⟩ := hbig j _ g' hj
            have := h.st.inj _ _ _ _ _ hi e2
            omega
          · rw [hlt j g'] at hj
            obtain ⟨i', e1, e2, e3⟩ := hbig i _ g hi
            have := h.st.inj _ _ _ _ _ hj e2
            omega
          · obtain ⟨i', e1, e2, e3⟩ := hbig i _ g hi
            obtain ⟨j', e4, e5, e6⟩ := hbig j _ g' hj
            have := h.st.inj _ _ _ _ _ e2 e5
            subst this
            have := (List.getElem?_inj (List.getElem?_eq_some_iff.1 e1).1 (bigs_nodup hnd)).1 (e1.trans e4.symm)
            omega
        notim := fun i b m hi => by
          rcases Nat.lt_or_ge i B.length with g | g
          · rw [hlt i g] at hi; exact h.st.notim _ _ _ hi
          · obtain ⟨i', e1, e2, e3⟩ := hbig i _ g hi
            exact h.st.notim _ _ _ e2
        fresh := fun i b m hi => by
          have key : ∀ i', ρ i' = some (some b, m) → w0.heap.size ≤ b ∨ ∃ j m', ρ0 j = some (some b, m') := fun i' h1 => h.st.own _ _ _ h1
          rcases Nat.lt_or_ge i B.length with g | g
          · rw [hlt i g] at hi; exact key _ hi
          · obtain ⟨i', e1, e2, e3⟩ := hbig i _ g hi
            exact key _ e2
        rep := (closed_restr hrep hcl).ren _ hf }
    · exact hv.elim
  · exact hv.elim
structure Ok (p : Prop) : Prop where
  out : p
theorem Ok.cast {p q : Prop} (e : p = q) (h : p) : Ok q := ⟨e ▸ h⟩
theorem start_SA {w : World} {im : Nat → Prop} {fn : Func} {args : List AV} {vals : Array Value} (him : ∀ b, im b → b < w.heap.size) (hlen : vals.size = args.length)
    (hrep : ∀ (j : Nat) (v : Value), vals[j]? = some v → Rep w im noIds v (nth args j)) (hle : args.length ≤ fn.ntmps) :
    SA w noBor im im noIds ⟨pad args fn.ntmps, [], []⟩ { tmps := vals ++ Array.replicate (fn.ntmps - vals.size) undef, defers := [] } w := by
  have hpad : (pad args fn.ntmps).length = fn.ntmps := by simp [pad]; omega
  refine ⟨⟨rfl, by simp [hpad]; omega, fun i v hi => ?_, fun _ _ => rfl, fun _ _ e => (by cases e), fun _ _ _ _ _ e => (by cases e), fun _ _ _ e => (by cases e), him, fun _ h => h, fun _ h => .inl h, fun _ _ _ e => (by cases e), fun _ _ _ e => (by cases e), fun _ e => (by cases e), fun _ e => (by cases e), rfl, rfl, rfl, Nat.le_refl _, fun _ _ _ => rfl⟩, List.nodup_nil⟩
  show Rep w im noIds v (nth (pad args fn.ntmps) i)
  dsimp only at hi
  rw [Array.getElem?_append] at hi
  unfold pad
  rw [nth_eq]
  split at hi
  · rename_i h1
    rw [List.getElem?_append_left (by omega), ← nth_eq]
    exact hrep i v hi
  · rename_i h1
    rw [List.getElem?_append_right (by omega)]
    rw [Array.getElem?_replicate] at hi
    split at hi
    · rename_i h2
      simp only [Option.some.injEq] at hi; subst hi
      rw [List.getElem?_replicate, if_pos (by omega)]
      exact undef_rep
    · cases hi
theorem fn_HA {w : World} {env : Env} (hΓ : ∀ f s, env.spec f = some s → HoldsN w.heap.size env.P f s) (hyg : env.yw.1 ≤ w.heap.size) (hwd : ∀ n, env.yw.2 = some n → w.heap.size ≤ n) {f : FuncId} {fn : Func} {s : Spec} (hf : env.P.funcs[f]? = some fn)
    (hc : ∀ args w, (callFunc f args).run env.P w = .ok (.enter f args) w)
    (hv : ∀ args k, s.run args [] k → Nat.ble args.length fn.ntmps = true ∧ ∃ loops cuts, Ok (fnVC { env with loops := loops, cuts := cuts } s.ro fn args k)) : HA w env.P f s := by
  intro im vals args k o a next Q him hKc hlen hrep hrun hnext
  rw [hc]
  obtain ⟨hle, loops, cuts, ⟨hv⟩⟩ := hv args k hrun
  unfold fnVC at hv
  split at hv
  · exact hv.elim
  · rename_i c hb
    show Calls env.P f vals w _
    refine calls_of_wp hf hb ?_
    have hle := Nat.le_of_ble_eq_true hle
    have h0 := start_SA (fn := fn) him hlen hrep hle
    refine vc_sound ⟨hΓ, hKc, fun b hb => ⟨him b hb, fun e => e⟩, ⟨hyg, fun _ e => False.elim e⟩, hwd⟩ c (env := { env with loops := loops, cuts := cuts }) rfl rfl rfl h0 hv fun e σ' a' w' im' ρ' hk h' => ?_
    have key : finish env.P s.ro σ' fn.results.toList k → a'.defers = [] ∧ ∃ v, (results fn a'.tmps).run env.P w' = .ok v w' ∧ next (a.put o.dst v) w' := fun hk => by
      obtain ⟨v, im2, ρ2, r, F, h1, h2, h3⟩ := finish_sound h' hk him
      exact ⟨h'.st.defers, v, h1, hnext _ _ _ _ _ _ h2 h3⟩
    cases e with
    | norm => exact key hk
    | ret => exact key hk
    | exit i => exact hk.elim
theorem fn_sound {env : Env} (hΓ : ∀ f s, env.spec f = some s → Holds env.P f s) {f : FuncId} {fn : Func} {s : Spec} (hf : env.P.funcs[f]? = some fn)
    (hc : ∀ args w, (callFunc f args).run env.P w = .ok (.enter f args) w)
    (hv : ∀ args k, s.run args [] k → Nat.ble args.length fn.ntmps = true ∧ ∃ loops cuts, Ok (fnVC { env with loops := loops, cuts := cuts } s.ro fn args k)) (hown : s.own = [] := by rfl) (hyw : env.yw = (0, none) := by rfl) : Holds env.P f s :=
  HoldsA.h (fun _ => fn_HA (fun f s h => (hΓ f s h).n _) (by rw [hyw]; exact Nat.zero_le _) (by rw [hyw]; intro _ e; cases e) hf hc hv) hown
theorem fn_soundY {n : Nat} {env : Env} (hΓ : ∀ f s, env.spec f = some s → HoldsN n env.P f s) {f : FuncId} {fn : Func} {s : Spec} (hf : env.P.funcs[f]? = some fn)
    (hc : ∀ args w, (callFunc f args).run env.P w = .ok (.enter f args) w)
    (hv : ∀ args k, s.run args [] k → Nat.ble args.length fn.ntmps = true ∧ ∃ loops cuts, Ok (fnVC { env with loops := loops, cuts := cuts } s.ro fn args k)) (hown : s.own = [] := by rfl) (hyw : env.yw = (n, none) := by rfl) : HoldsN n env.P f s :=
  HoldsN.of hown fun w hw => fn_HA (fun f s h => (hΓ f s h).mono hw) (by rw [hyw]; exact hw) (by rw [hyw]; intro _ e; cases e) hf hc hv
theorem fn_soundB {env : Env} (hΓ : ∀ f s, env.spec f = some s → Holds env.P f s) {f : FuncId} {fn : Func} {s : Spec} (hf : env.P.funcs[f]? = some fn)
    (hc : ∀ args w, (callFunc f args).run env.P w = .ok (.enter f args) w)
    (hv : ∀ args B k, s.run args B k → Nat.ble args.length fn.ntmps = true ∧ ∃ loops cuts, Ok (fnVCB { env with loops := loops, cuts := cuts } s.own fn args B k)) (hown : s.own ≠ [] := by simp) (hyw : env.yw = (0, none) := by rfl) : Holds env.P f s := by
  refine HoldsB.h ?_ hown
  intro w im ρ0 vals args B k o a next Q him hKc hnB hL hlen hrep hrun hnext
  rw [hc]
  obtain ⟨hle, loops, cuts, ⟨hv⟩⟩ := hv args B k hrun
  unfold fnVCB at hv
  split at hv
  · exact hv.elim
  · rename_i c hb
    show Calls env.P f vals w _
    refine calls_of_wp hf hb ?_
    have hle := Nat.le_of_ble_eq_true hle
    have hpad : (pad args fn.ntmps).length = fn.ntmps := by simp [pad]; omega
    have hlt : ∀ i b m, ρ0 i = some (some b, m) → b < w.heap.size := fun i b m hi => by
      cases hl : lget (lentL s.own 0 B) i with
      | none => rw [hL.dom i hl] at hi; cases hi
      | some x =>
        obtain ⟨ob, h1, h2⟩ := hL.blk i x hl
        rw [hi] at h1
        simp only [Option.some.injEq] at h1
        subst h1
        exact h2.lt rfl
    have h0 : SA w (borOf ρ0) im im ρ0 ⟨pad args fn.ntmps, [], lentL s.own 0 B⟩ { tmps := vals ++ Array.replicate (fn.ntmps - vals.size) undef, defers := [] } w := by
      refine ⟨St.mk rfl (by simp [hpad]; omega) (fun i v hi => ?_) hL.dom hL.blk hL.inj hL.notim him (fun _ h => h) (fun _ h => .inl h) (fun i b m hi => .inr ⟨i, m, hi⟩) (fun i x _ hi => hi) (fun _ _ => rfl) (fun b hb => by obtain ⟨i, m, hi⟩ := hb; exact hlt i b m hi) rfl rfl rfl (Nat.le_refl _) (fun _ _ _ => rfl), uniq_lentL _ _ _ (by omega)⟩
      show Rep w im ρ0 v (nth (pad args fn.ntmps) i)
      dsimp only at hi
      rw [Array.getElem?_append] at hi
      unfold pad
      rw [nth_eq]
      split at hi
      · rename_i h1
        rw [List.getElem?_append_left (by omega), ← nth_eq]
        exact hrep i v hi
      · rename_i h1
        rw [List.getElem?_append_right (by omega)]
        rw [Array.getElem?_replicate] at hi
        split at hi
        · rename_i h2
          simp only [Option.some.injEq] at hi; subst hi
          rw [List.getElem?_replicate, if_pos (by omega)]
          exact undef_rep
        · cases hi
    have hG : Gam env.P env.spec env.yw w (borOf ρ0) im := ⟨fun f s h => (hΓ f s h).n _, hKc, fun b hb => ⟨him b hb, fun e => by
      obtain ⟨i, m, e⟩ := e
      exact hL.notim i b m e hb⟩, by rw [hyw]; exact ⟨Nat.zero_le _, fun _ _ => Nat.zero_le _⟩, by rw [hyw]; intro _ e; cases e⟩
    refine vc_sound hG c (env := { env with loops := loops, cuts := cuts }) rfl rfl rfl h0 hv fun e σ' a' w' im' ρ' hk h' => ?_
    have key : finishB env.P s.own B.length σ' fn.results.toList k → a'.defers = [] ∧ ∃ v, (results fn a'.tmps).run env.P w' = .ok v w' ∧ next (a.put o.dst v) w' := fun hk => by
      obtain ⟨v, im2, ρ2, r, bs, F, h1, h2, h3⟩ := finishB_sound hnB hL h' hk him
      exact ⟨h'.st.defers, v, h1, hnext _ _ _ _ _ _ _ h2 h3⟩
    cases e with
    | norm => exact key hk
    | ret => exact key hk
    | exit i => exact hk.elim
end
def mkG : Nat → Nat → List (Nat × AV) → List AV
  | 0, _, _ => []
  | n + 1, i, [] => .dead :: mkG n (i + 1) []
  | n + 1, i, (j, a) :: r => match Nat.beq i j with
    | true => a :: mkG n (i + 1) r
    | false => .dead :: mkG n (i + 1) ((j, a) :: r)
def mk (n : Nat) (l : List (Nat × AV)) : List AV := mkG n 0 l
theorem br_intro {b : Bool} {A B : Prop} (h1 : b = true → A) (h2 : b = false → B) : br b A B := by cases b; exact h2 rfl; exact h1 rfl
theorem brd {p : Prop} [Decidable p] {A B : Prop} (h1 : p → A) (h2 : ¬ p → B) : br (decide p) A B := by
  by_cases h : p
  · rw [decide_eq_true h]; exact h1 h
  · rw [decide_eq_false h]; exact h2 h
end Go.Eng
