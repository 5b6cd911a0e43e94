import Derived.Test.YtcdflgfhkohldaaEngX
namespace Go.Eng
open Go
set_option linter.unusedVariables false
set_option linter.unusedSimpArgs false
theorem all_and {l : List Prop} {q : Prop} (h : andL l q) : All l ∧ q := by
  induction l with
  | nil => exact ⟨trivial, h⟩
  | cons p r ih => exact ⟨⟨h.1, (ih h.2).1⟩, (ih h.2).2⟩
theorem conjD_all {l : List DP} (h : conjD l) : AllD l := by
  induction l with
  | nil => trivial
  | cons p r ih =>
    obtain ⟨p, d⟩ := p
    cases r with
    | nil => exact ⟨h, trivial⟩
    | cons q r => exact ⟨h.1, ih h.2⟩
theorem all_conj {l : List Prop} (h : conj l) : All l := by
  induction l with
  | nil => trivial
  | cons p r ih =>
    cases r with
    | nil => exact ⟨h, trivial⟩
    | cons q r => exact ⟨h.1, ih h.2⟩
theorem conj_all {l : List Prop} (h : All l) : conj l := by
  induction l with
  | nil => trivial
  | cons p r ih =>
    cases r with
    | nil => exact h.1
    | cons q r => exact ⟨h.1, ih h.2⟩
theorem under_all {g : List Prop} {pre : List DP} {q : Prop} (h : underL g pre q) : (All g → AllD pre) ∧ q := by
  cases pre with
  | nil => exact ⟨fun _ => trivial, h⟩
  | cons p r => exact ⟨fun hg => conjD_all (h.1 (conj_all hg)), h.2⟩
theorem all_append {l m : List Prop} : All (l ++ m) ↔ All l ∧ All m := by
  induction l with
  | nil => simp [All]
  | cons p r ih => simp [All, ih, and_assoc]
section
variable {w0 w : World} {bor : Bor} {im0 im : Nat → Prop} {ρ : Ids} {σ : AS} {a : Act}
theorem fzv_dead (l : List Nat) : ∀ σ, AS.fzv l σ .dead = .dead := by
  induction l with
  | nil => intro σ; rfl
  | cons i l ih =>
    intro σ
    unfold AS.fzv
    split
    · have : frz i _ ‹_› AV.dead = .dead := rfl
      rw [this]; exact ih _
    · exact ih _
theorem mem_lget {L : Locs} (hu : Uniq L) {i : Nat} {b : Blk} (h : (i, b) ∈ L) : lget L i = some b := by
  induction L with
  | nil => cases h
  | cons x r ih =>
    obtain ⟨j, b'⟩ := x
    unfold Uniq at hu
    simp only [List.map_cons, List.nodup_cons] at hu
    simp only [lget]
    rcases List.mem_cons.1 h with h1 | h1
    · simp only [Prod.mk.injEq] at h1
      obtain ⟨rfl, rfl⟩ := h1
      have : Nat.beq i i = true := Nat.beq_refl i
      simp only [this]
    · have hne : Nat.beq j i = false := by
        cases hb : Nat.beq j i with
        | false => rfl
        | true =>
          have := nbeq hb
          subst this
          exact absurd (List.mem_map.2 ⟨_, h1, rfl⟩) hu.1
      simp only [hne]
      exact ih hu.2 h1
theorem roAll_rep (h : SA w0 bor im0 im ρ σ a w) (L0 : Locs) : ∀ (L : Locs), (∀ x ∈ L, x ∈ σ.locs) → ∀ (args : List AV), (roAll L0 L args).length = args.length ∧
    ∀ (j : Nat) (v : Value), Rep w (fun b => b < w.heap.size) ρ v (nth args j) → Rep w (fun b => b < w.heap.size) ρ v (nth (roAll L0 L args) j)
  | [], _, args => ⟨rfl, fun _ _ h => h⟩
  | (i, .cells cs) :: r, hs, args => roAll_rep h L0 r (fun x hx => hs x (List.mem_cons_of_mem _ hx)) args
  | (i, .row c xs) :: r, hs, args => by
    have ih := roAll_rep h L0 r (fun x hx => hs x (List.mem_cons_of_mem _ hx)) (frzL i c xs args)
    have hl := mem_lget h.uniq (hs _ (List.mem_cons_self ..))
    obtain ⟨ob, h1, h2⟩ := h.st.blk i _ hl
    have hB : BRep w (fun b => b < w.heap.size) noIds ob (.row c xs) := h2.closed.stable (fun _ _ => rfl) (fun b hb => h.st.imlt b hb) (fun _ _ h => h) (fun _ _ _ h => by simp [noIds] at h) (fun _ _ => rfl)
    refine ⟨by rw [show roAll L0 ((i, Blk.row c xs) :: r) args = roAll L0 r (frzL i c xs args) from rfl, ih.1, frzL_eq]; simp, fun j v hr => ih.2 j v ?_⟩
    rw [frzL_eq, nth_map_dead (by rfl)]
    exact hr.frz i hB (fun _ h => h) (fun b hb => h2.lt hb) (fun x hx => by rw [h1] at hx; exact (Option.some.inj hx).symm) (fun _ _ _ h => h)
theorem freezeL_gs (l : List Nat) : ∀ (σ : AS) (dst : Option Tmp), (σ.freezeL l).clash dst = σ.clash dst := fun σ dst => freezeL_clash _ _ _
theorem reach_present {L : Locs} : ∀ (n : Nat) (todo acc : List Nat), (∀ i ∈ acc, lget L i ≠ none) → ∀ i ∈ reach L n todo acc, lget L i ≠ none
  | 0, todo, acc, h => by unfold reach; exact h
  | n + 1, [], acc, h => by unfold reach; exact h
  | n + 1, j :: todo, acc, h => by
    have hacc : ∀ {b : Blk}, lget L j = some b → ∀ i ∈ acc ++ [j], lget L i ≠ none := fun hb i hi => by
      rcases List.mem_append.1 hi with h1 | h1
      · exact h i h1
      · simp only [List.mem_singleton] at h1
        subst h1; rw [hb]; simp
    unfold reach
    split
    · exact reach_present n _ _ h
    · split
      · exact reach_present n _ _ (hacc ‹_›)
      · exact reach_present n _ _ (hacc ‹_›)
      · exact reach_present n _ _ h
theorem callB_sound {env : Env} {s : Spec} {o : Oper} {f : FuncId} {sp : FuncId → Option Spec} (hΓ : Gam env.P sp env.yw w0 bor im0) (hH : HB w env.P f s) (h : SA w0 bor im0 im ρ σ a w) {vals : Array Value} {args : List AV} (hl : vals.size = args.length)
    (hr : ∀ (j : Nat) (v : Value), vals[j]? = some v → Rep w im ρ v (nth args j)) {id : Nat} {k : AS → Prop} {next : Act → World → Prop} {Q : Exit → Act → World → Prop}
    (hv : callB env σ o.dst s args id k) (hn : Then (lends env) w o w0 bor im0 k next) (hkb : keepsB (lends env) o.op = true → False) : Oper.upon env.P o a next Q ((callFunc f vals).run env.P w) := by
  unfold callB at hv
  dsimp only at hv
  generalize readIds s.lend 0 args [] = rd at hv
  obtain ⟨im1, ρ1, h', hsub, habs, hfz, hkρ⟩ := h.freezeL rd
  generalize hl' : reach (σ.freezeL rd).locs 1000 (idsL (List.map (AS.fzv rd σ) args) []) [] = l at hv
  split at hv
  · rename_i B hB hchk
    simp only [Bool.and_eq_true] at hchk
    obtain ⟨⟨hnd, hcl⟩, hlen⟩ := hchk
    have hnd := nodup_ok hnd
    have hlen := Nat.le_of_ble_eq_true hlen
    obtain ⟨hLent, hBl, hf⟩ := h'.lent hnd hlen hB
    have hin : ∀ (j i : Nat), l[j]? = some i → lget (σ.freezeL rd).locs i ≠ none := fun j i hj => by
      have := reach_present 1000 (idsL (List.map (AS.fzv rd σ) args) []) [] (fun i hi => by cases hi) i (L := (σ.freezeL rd).locs)
      rw [hl'] at this
      exact this (List.mem_of_getElem? hj)
    refine hH im1 _ vals _ B _ o a next Q (fun b hb => h'.st.imlt b hb) (hΓ.at h') (by omega) hLent (by rw [renL_eq]; simpa using hl) (fun j v hj => ?_) hv ?_
    · have h1 := hfz v _ (hr j v hj)
      have e : nth (List.map (AS.fzv rd σ) args) j = AS.fzv rd σ (nth args j) := nth_map_dead (fzv_dead _ _) _ _
      rw [← e] at h1
      rw [renL_eq, nth_map_dead (by rfl)]
      exact (closed_restr h1 (closedL_nth hcl j)).ren _ hf
    · intro v w' im' ρ' r bs F hk hres
      unfold afterB at hk
      dsimp only at hk
      split at hk
      · rename_i hab hclash
        rw [hBl] at hres
        obtain ⟨im2, ρ2, h1, h2⟩ := h'.calledB hnd hlen hin hres hab
        exact hn _ _ _ _ _ (bindK_ok (k := fun L => k (AS.put ⟨((σ.freezeL rd).killD (deadL l bs)).slots, ((σ.freezeL rd).killD (deadL l bs)).gs, L⟩ o.dst none (ren (hnum l l.length id) r))) (bindE0 hk)) (h1.put hclash h2) fun e => (hkb e).elim
      · exact hk.elim
  · exact hv.elim
theorem strip1_rep {ρ : Ids} {v : Value} {x : AV} (h : Rep w im ρ v x) : Rep w im ρ v (strip1 x) := by
  unfold strip1
  split
  · cases h with | both h _ => exact h.any
  · exact h
theorem strip_rep {v : Value} {x : AV} (h : Rep w im ρ v x) : Rep w im ρ v (strip x) := by
  cases x with
  | both a b => cases h with | both h _ => exact h.any
  | agg l =>
    obtain ⟨vs, rfl, h1, h2, h3⟩ := h.inv_agg
    exact .agg (by simpa using h1) h2 fun j v hj => by rw [nth_map_dead (f := strip1) rfl]; exact strip1_rep (h3 j v hj)
  | _ => exact h
theorem call_sound {env : Env} (hΓ : Gam env.P env.spec env.yw w0 bor im0) (h : SA w0 bor im0 im ρ σ a w) {o : Oper} {f : FuncId} {vals : Array Value} {args : List AV} (hl : vals.size = args.length)
    (hr : ∀ (j : Nat) (v : Value), vals[j]? = some v → Rep w im ρ v (nth args j)) {id : Nat} {k : AS → Prop} {next : Act → World → Prop} {Q : Exit → Act → World → Prop}
    (hv : callAV env σ o.dst f args id k) (hn : Then (lends env) w o w0 bor im0 k next) (hkb : keepsB (lends env) o.op = true → lends env f = false) : Oper.upon env.P o a next Q ((callFunc f vals).run env.P w) := by
  unfold callAV at hv
  have hl2 : vals.size = (args.map strip).length := by simpa using hl
  have hr2 : ∀ (j : Nat) (v : Value), vals[j]? = some v → Rep w im ρ v (nth (args.map strip) j) := fun j v hj => by
    rw [nth_map_dead (f := strip) rfl]; exact strip_rep (hr j v hj)
  dsimp only at hv
  generalize args.map strip = args' at hv hl2 hr2
  clear hl hr
  have hl := hl2
  have hr := hr2
  split at hv
  · exact hv.elim
  · rename_i s hs
    have hH := hΓ.h f s hs
    split at hv
    · rename_i o1 os hown
      exact callB_sound hΓ (hH.b hown w h.st.size) h hl hr hv hn fun e => by
        have e := hkb e
        unfold lends at e
        rw [hs] at e
        dsimp only at e
        rw [hown] at e
        cases e
    rename_i hown
    have hH := hH.a hown w h.st.size
    split at hv
    · rename_i hro
      split at hv
      · rename_i hnid
        obtain ⟨hlen, hrep⟩ := roAll_rep h σ.locs σ.locs (fun _ h => h) args'
        refine hH (fun b => b < w.heap.size) vals _ _ o a next Q (fun _ h => h) (hΓ.atH h) (by rw [hlen]; exact hl) (fun j v hj => ?_) hv ?_
        · have := hrep j v ((hr j v hj).stable (fun _ _ => rfl) (fun b hb => h.st.imlt b hb) (fun _ _ h => h) (fun _ _ _ _ => rfl))
          exact noIds_rep this (noIdsLB_nth _ hnid j)
        · intro v w' im' ρ' r F hk hres
          split at hk
          · rename_i hab hcl
            obtain ⟨im2, ρ2, h1, h2⟩ := h.called hres (fun e => by rw [hro] at e; cases e) hab
            exact hn _ _ _ _ _ (bindE0 hk) (h1.put hcl h2) fun _ => .of_heap hres.below.size hres.below.block
          · exact hk.elim
      · exact hv.elim
    · rename_i hro
      obtain ⟨im1, ρ1, h', hsub, habs, hfz, hkρ⟩ := h.freezeL (idsL args' [])
      split at hv
      · rename_i hnid
        refine hH im1 vals _ _ o a next Q (fun b hb => h'.st.imlt b hb) (hΓ.at h') (by simpa using hl) (fun j v hj => ?_) hv ?_
        · have := hfz v _ (hr j v hj)
          have e : nth (List.map (AS.fzv (idsL args' []) σ) args') j = AS.fzv (idsL args' []) σ (nth args' j) := nth_map_dead (fzv_dead _ _) _ _
          rw [← e] at this
          exact noIds_rep this (noIdsLB_nth _ hnid j)
        · intro v w' im' ρ' r F hk hres
          split at hk
          · rename_i hab hcl
            obtain ⟨im2, ρ2, h1, h2⟩ := h'.called hres (fun _ _ => Iff.rfl) hab
            exact hn _ _ _ _ _ (bindE0 hk) (h1.put hcl h2) fun _ => .of_heap hres.below.size hres.below.block
          · exact hk.elim
      · exact hv.elim
theorem eop_sound {env : Env} (hΓ : Gam env.P env.spec env.yw w0 bor im0) (h : SA w0 bor im0 im ρ σ a w) {o : Oper} {id : Nat} {k : AS → Prop} {next : Act → World → Prop} {Q : Exit → Act → World → Prop} {g : Gd}
    (hg : GdOK a g) (hv : eop env σ g o id k) (hn : Then (lends env) w o w0 bor im0 k next) : o.wp env.P a w next Q := by
  cases ho : o.op with
  | alloc t => exact alloc_sound h ho hv hn
  | box t x => exact box_sound h ho hg hv hn
  | store t ad x => exact store_sound hΓ.wd h ho hg hv hn
  | buildSlice t len parts => exact buildSlice_sound h ho hg hv hn
  | makeSlice t l c => exact makeSlice_sound h ho hg hv hn
  | convert s d x => exact conv_sl_sound h ho hg hv hn
  | binOp op t x y t' => exact sleq_sound h ho hg hv hn
  | call c =>
    unfold eop at hv
    rw [ho] at hv
    dsimp only at hv
    split at hv
    · rename_i hc hcl
      exact append_sound h ho hc hg hcl hv hn
    · rename_i hc hcl
      exact copy_sound h ho hc hg hcl hv hn
    · rename_i f hc hcl
      split at hv
      · rename_i n first captured hf
        have hr := h.ev hg f
        rw [hf] at hr
        obtain ⟨vs, us, hfe, hvs, hus, h1, h2⟩ := hr.inv_fn
        have hargs := args_rep a.eval (σ.ev g) (fun x => h.ev hg x) c.args.toList
        unfold Oper.wp
        have hrun : (execOp a.eval o).run env.P w = (callFunc n (vs ++ c.args.map a.eval ++ us)).run env.P w := by
          simp only [execOp, ho, resolve, hc, hfe, Deferred.ofValue, Sem.run_bind, Sem.run_pure, Result.andThen_ok, invoke]
        rw [hrun]
        refine call_sound hΓ h ?_ ?_ hv hn (fun e => ?_)
        case refine_3 =>
          rw [ho] at e
          simp only [keepsB, hc] at e
          cases f with
          | func f' =>
            simp only [AS.ev, AV.fn.injEq, Fn.func.injEq] at hf
            rw [← hf.1]
            simpa using e
          | tmp t => cases e
          | const v => cases e
          | «global» n => cases e
        · simp [hvs, hus]
        · intro j v hj
          rw [Array.getElem?_append] at hj
          split at hj
          · rename_i hj1
            rw [nth_eq, List.getElem?_append_left (by simp at hj1 ⊢; omega), ← nth_eq]
            rw [Array.getElem?_append] at hj
            split at hj
            · rename_i hj2
              rw [nth_eq, List.getElem?_append_left (by omega), ← nth_eq]
              exact h1 j v hj
            · rename_i hj2
              rw [nth_eq, List.getElem?_append_right (by omega), ← nth_eq, ← hvs]
              exact hargs _ v (by simpa using hj)
          · rename_i hj1
            simp only [Array.size_append, Array.size_map] at hj1 hj
            rw [nth_eq, List.getElem?_append_right (by simp; omega), ← nth_eq]
            have e : j - (first ++ List.map (σ.ev g) c.args.toList).length = j - (vs.size + c.args.size) := by simp [hvs]
            rw [e]
            exact h2 _ v hj
      · exact hv.elim
    · exact hv.elim
  | _ => unfold eop at hv; rw [ho] at hv; exact hv.elim
end
end Go.Eng
