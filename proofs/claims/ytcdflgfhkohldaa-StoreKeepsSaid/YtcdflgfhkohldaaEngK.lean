import Derived.Test.YtcdflgfhkohldaaEngJ
namespace Go.Eng
open Go
set_option linter.unusedVariables false
set_option linter.unusedSimpArgs false
section
variable {w0 : World} {bor : Bor} {im0 im : Nat → Prop} {ρ : Ids} {sl : List AV} {gs : List (Nat × Nat × Bool)} {L : Nat → Option Blk} {σ : AS} {a : Act} {w : World}
theorem BRep.stableC {w w' : World} {im im' : Nat → Prop} {ρ ρ' : Ids} {ob : Option Nat × Nat} {b : Blk} (h : BRep w im ρ ob b)
    (hw : ∀ b o, im b → w'.cell? ⟨b, o, none⟩ = w.cell? ⟨b, o, none⟩) (him : ∀ b, im b → im' b) (hρ : ∀ i x, ρ i = some x → ρ' i = some x)
    (hs : ∀ i b m, ρ i = some (some b, m) → w'.shape? b = w.shape? b) (hz : ∀ b o x, im b → w.cell? ⟨b, o, none⟩ = some x → w.frozen? ⟨b, o, none⟩ = false → w'.frozen? ⟨b, o, none⟩ = false) (hb : ∀ x, ob.1 = some x → w'.heap[x]? = w.heap[x]?) : BRep w' im' ρ' ob b := by
  cases b with
  | cells cs =>
    obtain ⟨b, cur, e, h1, h2, h3, h4, h5⟩ := h
    exact ⟨b, cur, e, h1, (hb b h1).trans h2, h3, h4, fun j v hj => (h5 j v hj).stableC hw him hρ hs hz⟩
  | row c xs =>
    obtain ⟨h0, h⟩ := h
    refine ⟨h0, h.imp id ?_⟩
    rintro ⟨b, cur, e, cap, h1, h2, h3, h4, h5, h6, h7⟩
    exact ⟨b, cur, e, cap, h1, (hb b h1).trans h2, h3, h4, h5, h6, fun i j x v hx hj hv => (h7 i j x v hx hj hv).stableC hw him (fun _ _ h => h) (fun _ _ _ h => by simp [noIds] at h) hz⟩
theorem St.mark (h : St w0 bor im0 im ρ sl gs L a w) {b : Nat} {w' : World} (hkeep : ∀ x, x ≠ b → w'.heap[x]? = w.heap[x]?) (hcell : ∀ o, w'.cell? ⟨b, o, none⟩ = w.cell? ⟨b, o, none⟩) (hfz : ∀ o x, w.cell? ⟨b, o, none⟩ = some x → w.frozen? ⟨b, o, none⟩ = false → w'.frozen? ⟨b, o, none⟩ = false) (hshape : w'.shape? b = w.shape? b) (hρ : ∀ i m, ρ i ≠ some (some b, m)) (hown : w0.heap.size ≤ b ∨ bor.mem b)
    (hos : w'.os = w.os) (ht : w'.tape = w.tape) (ho : w'.output = w.output) (hsz : w.heap.size ≤ w'.heap.size) : St w0 bor im0 im ρ sl gs L a w' := by
  have h1 : ∀ x o, im x → w'.cell? ⟨x, o, none⟩ = w.cell? ⟨x, o, none⟩ := fun x o hx => by
    by_cases e : x = b
    · subst e; exact hcell o
    · exact World.cell?_of_block (w := w) (hkeep x e)
  have h3 : ∀ x o y, im x → w.cell? ⟨x, o, none⟩ = some y → w.frozen? ⟨x, o, none⟩ = false → w'.frozen? ⟨x, o, none⟩ = false := fun x o y hx hc hf => by
    by_cases e : x = b
    · subst e; exact hfz o y hc hf
    · have e2 : w'.frozen? ⟨x, o, none⟩ = w.frozen? ⟨x, o, none⟩ := by simp only [World.frozen?, hkeep x e]
      rw [e2]; exact hf
  have h2 : ∀ j x m', ρ j = some (some x, m') → w'.shape? x = w.shape? x := fun j x m' hx => shape_of (hkeep x (by rintro rfl; exact hρ _ _ hx))
  exact { h with
    slot := fun j v hv => by
      have hs := h.slot j v hv
      unfold SRep at hs ⊢
      split
      · rename_i hg; rw [hg] at hs; exact hs.stableC h1 (fun _ h => h) (fun _ _ h => h) h2 h3
      · rename_i tc wt hg
        rw [hg] at hs
        exact ⟨fun e => (hs.1 e).stableC h1 (fun _ h => h) (fun _ _ h => h) h2 h3, hs.2⟩
    blk := fun j b' hb' => by
      obtain ⟨ob, h5, h4⟩ := h.blk j b' hb'
      refine ⟨ob, h5, h4.stableC h1 (fun _ h => h) (fun _ _ h => h) h2 h3 (fun x hx => hkeep x ?_)⟩
      rintro rfl
      obtain ⟨o1, o2⟩ := ob
      dsimp only at hx
      subst hx
      exact hρ _ _ h5
    imlt := fun b hb => Nat.lt_of_lt_of_le (h.imlt b hb) hsz
    os := hos.trans h.os
    tape := ht.trans h.tape
    output := ho.trans h.output
    size := Nat.le_trans h.size hsz
    shp := fun x hx => by
      by_cases e : x = b
      · subst e; exact hshape.trans (h.shp x hx)
      · exact (shape_of (hkeep x e)).trans (h.shp x hx)
    frame := fun x hx hn => by
      refine (hkeep x ?_).trans (h.frame x hx hn)
      rintro rfl
      rcases hown with h5 | h5
      · omega
      · exact hn h5 }
theorem freeze_other (w : World) (b n : Nat) (k : Nat) (x : Nat) (hx : x ≠ b) : (w.freeze ⟨b, n, none⟩ k).heap[x]? = w.heap[x]? := by
  unfold World.freeze
  split
  · rfl
  · simp [Array.getElem?_modify, Ne.symm hx]
theorem freeze_cell (w : World) (b n k o : Nat) : (w.freeze ⟨b, n, none⟩ k).cell? ⟨b, o, none⟩ = w.cell? ⟨b, o, none⟩ := by
  unfold World.freeze
  split
  · rfl
  · simp only [World.cell?, Array.getElem?_modify]
    cases h : w.heap[b]? with
    | none => simp
    | some ob => cases ob <;> simp
theorem freeze_frozen (w : World) (b o : Nat) (cur : Array Value) (e : TypeId) (hh : w.heap[b]? = some (.cells cur e (0, 0))) (x : Value) (hc : w.cell? ⟨b, o, none⟩ = some x) : (w.freeze ⟨b, cur.size, none⟩ 1).frozen? ⟨b, o, none⟩ = false := by
  have ho : o < cur.size := by
    simp only [World.cell?, hh] at hc
    simp at hc
    exact get_lt hc
  unfold World.freeze
  rw [if_neg (by decide)]
  simp only [World.frozen?, Array.getElem?_modify, hh]
  simp
  omega
theorem freeze_shape (w : World) (b n k x : Nat) : (w.freeze ⟨b, n, none⟩ k).shape? x = w.shape? x := by
  by_cases hx : x = b
  · subst hx
    unfold World.freeze
    split
    · rfl
    · simp only [World.shape?, Array.getElem?_modify, if_pos]
      cases h : w.heap[x]? with
      | none => simp
      | some ob => cases ob <;> simp
  · simp [World.shape?, freeze_other w b n k x hx]
theorem freeze_size (w : World) (b n k : Nat) : (w.freeze ⟨b, n, none⟩ k).heap.size = w.heap.size := by
  unfold World.freeze
  split <;> simp
theorem conv_sl_sound {env : Env} (h : SA w0 bor im0 im ρ σ a w) {o : Oper} {s d : TypeId} {x : Operand} (ho : o.op = .convert s d x) {id : Nat} {k : AS → Prop} {next : Act → World → Prop} {Q : Exit → Act → World → Prop} {g : Gd}
    (hg : GdOK a g) (hv : eop env σ g o id k) (hn : Then (lends env) w o w0 bor im0 k next) : o.wp env.P a w next Q := by
  unfold eop at hv
  rw [ho] at hv
  dsimp only at hv
  split at hv
  · rename_i e e' c i o' n hs hd hx hcl
    split at hv
    · rename_i hsd hu8' hu8
      have hsd := nbeq hsd
      subst hsd
      split at hv
      · rename_i c' xs hl
        split at hv
        · rename_i hcc
          have hcc := nbeq hcc
          subst hcc
          obtain ⟨hpos, hv⟩ := and1_ok hv
          have hv := bindE0 hv
          have hr := h.ev hg x
          rw [hx] at hr
          obtain ⟨im', ρ', h', hsub, habs, hfz, hkρ⟩ := h.freeze i
          have hr' := hfz _ _ hr
          rw [hl] at hr'
          have hbe : Nat.beq i i = true := Nat.beq_refl i
          have hce : Nat.beq c c = true := Nat.beq_refl c
          simp only [frz, hbe, hce] at hr'
          obtain ⟨b, off, cap, m, hav, hρb⟩ : ∃ b off cap m, a.eval x = .slice (some ⟨b, off, none⟩) n cap ∧ ρ i = some (some b, m) := by
            generalize a.eval x = u at hr
            cases hr with
            | row0 => omega
            | row h1 => exact ⟨_, _, _, _, rfl, h1⟩
            | rowE => omega
          obtain ⟨ob, h1, hB⟩ := h.st.blk i _ hl
          rw [hρb] at h1
          simp only [Option.some.injEq] at h1
          subst h1
          obtain ⟨hk, hB⟩ := hB
          dsimp only at hk hB
          rcases hB with ⟨g1, -⟩ | ⟨b', cur, e2, cap', g1, hh, hsz, hcap, hm, hone, hrep⟩
          · cases g1
          simp only [Option.some.injEq] at g1
          subst g1
          have hshape : w.shape? b = some (e2, cur.size) := by simp [World.shape?, hh]
          have hnρ : ∀ j m', ρ' j ≠ some (some b, m') := fun j m' hj => by
            by_cases hjn : lget (σ.freeze i).locs j = none
            · have := h'.st.dom j hjn; rw [this] at hj; cases hj
            · have hj2 := hj
              rw [hkρ j hjn] at hj2
              have := h.st.inj j i b _ _ hj2 hρb
              subst this
              exact hjn (by
                unfold AS.freeze
                rw [hl]
                show lget (lmap _ (ldel σ.locs j)) j = none
                rw [lget_lmap, lget_ldel h.uniq, if_pos rfl]; rfl)
          have hst := h'.st.mark (w' := w.freeze ⟨b, cur.size, none⟩ 1) (b := b) (fun y hy => freeze_other _ _ _ _ y hy) (fun o => freeze_cell _ _ _ _ o) (fun o x hc _ => freeze_frozen w b o cur e2 hh x hc) (freeze_shape _ _ _ _ _) hnρ (h.st.own i b _ hρb)
            (by unfold World.freeze; split <;> rfl) (by unfold World.freeze; split <;> rfl) (by unfold World.freeze; split <;> rfl) (by rw [freeze_size]; exact Nat.le_refl _)
          have hSA : SA w0 bor im0 im' ρ' (σ.freeze i) a (w.freeze ⟨b, cur.size, none⟩ 1) := ⟨hst, h'.uniq⟩
          refine wp_value (v := .slice (some ⟨b, off, none⟩) n cap) (w' := w.freeze ⟨b, cur.size, none⟩ 1) ?_ (hn _ _ _ _ _ hv (hSA.put ((freeze_clash _ _ _).trans hcl) ?_) fun _ => ⟨by rw [freeze_size]; exact Nat.le_refl _, fun b2 _ => ⟨fun o => by
              by_cases e : b2 = b
              · subst e; exact freeze_cell _ _ _ _ _
              · simp [World.cell?, freeze_other _ _ _ _ _ e], freeze_shape _ _ _ _ _⟩⟩)
          · simp only [execOp, ho, hav, convert, Sem.run_bind, run_underlying hs, run_underlying hu8, Result.andThen_ok]
            simp [run_underlying hu8, markStringish, hshape]
          · rw [hav] at hr'
            exact hr'.stableC (fun b2 o2 _ => by
              by_cases e : b2 = b
              · subst e; exact freeze_cell _ _ _ _ _
              · exact World.cell?_of_block (w := w) (freeze_other _ _ _ _ b2 e)) (fun _ h => h) (fun _ _ h => h) (fun j b2 m' hj => shape_of (freeze_other _ _ _ _ b2 (by rintro rfl; exact hnρ _ _ hj))) (fun b2 o2 y _ hc hf => by
              by_cases e : b2 = b
              · subst e; exact freeze_frozen w b2 o2 cur e2 hh y hc
              · have e3 : (w.freeze ⟨b, cur.size, none⟩ 1).frozen? ⟨b2, o2, none⟩ = w.frozen? ⟨b2, o2, none⟩ := by simp only [World.frozen?, freeze_other _ _ _ _ b2 e]
                rw [e3]; exact hf)
        · exact hv.elim
      · exact hv.elim
    · exact hv.elim
  · exact hv.elim
end
end Go.Eng
