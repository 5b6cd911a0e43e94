import Derived.Test.YtcdflgfhkohldaaEngZ
import Derived.Test.YtcdflgfhkohldaaEngW
import Derived.Test.YtcdflgfhkohldaaEngY
namespace Go.Eng
open Go
set_option linter.unusedVariables false
set_option linter.unusedSimpArgs false
def seqs : Code → List Code
  | .seq a b => seqs a ++ seqs b
  | c => [c]
def wpL (P : Program) (Q : Exit → Act → World → Prop) : List Code → Act → World → Prop
  | [], a, w => Q .normal a w
  | c :: r, a, w => c.wp P (Exit.then (fun a w => wpL P Q r a w) Q) a w
theorem Exit.then_mono {n1 n2 : Act → World → Prop} {Q : Exit → Act → World → Prop} (h : ∀ a w, n1 a w → n2 a w) : ∀ e a w, Exit.then n1 Q e a w → Exit.then n2 Q e a w := by
  intro e a w he
  cases e <;> first | exact h _ _ he | exact he
theorem wp_mono {P : Program} {Q R : Exit → Act → World → Prop} {c : Code} {a : Act} {w : World} (h : c.wp P Q a w) (hq : ∀ e a w, Q e a w → R e a w) : c.wp P R a w :=
  fun b k cs => let ⟨e, a', w', q, r⟩ := h b k cs; ⟨e, a', w', hq _ _ _ q, r⟩
theorem wpL_append {P : Program} {Q : Exit → Act → World → Prop} : ∀ (l m : List Code) (a : Act) (w : World), wpL P Q (l ++ m) a w → wpL P (Exit.then (fun a w => wpL P Q m a w) Q) l a w
  | [], m, a, w, h => h
  | c :: r, m, a, w, h => by
    refine wp_mono (Q := Exit.then (fun a w => wpL P Q (r ++ m) a w) Q) h fun e a w he => ?_
    cases e with
    | normal => exact wpL_append r m _ _ he
    | _ => exact he
theorem seqs_wp {P : Program} : ∀ (c : Code) {Q : Exit → Act → World → Prop} {a : Act} {w : World}, wpL P Q (seqs c) a w → c.wp P Q a w := by
  intro c
  have one : ∀ {c : Code} {Q : Exit → Act → World → Prop} {a : Act} {w : World}, wpL P Q [c] a w → c.wp P Q a w := fun {c Q a w} h => by
    refine wp_mono (Q := Exit.then (fun a w => wpL P Q [] a w) Q) h fun e a w he => ?_
    cases e <;> exact he
  induction c with
  | seq x y ihx ihy =>
    intro Q a w h
    refine wp_seq (ihx ?_)
    have h := wpL_append (seqs x) (seqs y) a w h
    have mono : ∀ (l : List Code) {Q R : Exit → Act → World → Prop} {a : Act} {w : World}, (∀ e a w, Q e a w → R e a w) → wpL P Q l a w → wpL P R l a w := by
      intro l
      induction l with
      | nil => intro Q R a w hq h; exact hq _ _ _ h
      | cons c r ih =>
        intro Q R a w hq h
        refine wp_mono (Q := Exit.then (fun a w => wpL P Q r a w) Q) h fun e a w he => ?_
        cases e with
        | normal => exact ih hq he
        | _ => exact hq _ _ _ he
    exact mono _ (fun e a w he => Exit.then_mono (fun _ _ h => ihy h) e a w he) h
  | _ => intro Q a w h; exact one h
def vcL (env : Env) : List Code → AS → (Ex → AS → Prop) → Prop
  | [], σ, K => K .norm σ
  | c :: r, σ, K => vc env c σ fun e σ' => match e with
    | .norm => vcL env r σ' K
    | e => K e σ'
section
variable {w0 : World} {bor : Bor} {im0 : Nat → Prop}
theorem vcL_sound {env : Env} (hΓ : Gam env.P env.spec env.yw w0 bor im0) : ∀ (l : List Code) {σ : AS} {a : Act} {w : World} {im : Nat → Prop} {ρ : Ids} {K : Ex → AS → Prop} {Q : Exit → Act → World → Prop},
    SA w0 bor im0 im ρ σ a w → vcL env l σ K → (∀ e σ' a' w' im' ρ', K e σ' → SA w0 bor im0 im' ρ' σ' a' w' → Q (exOf e) a' w') → wpL env.P Q l a w
  | [], σ, a, w, im, ρ, K, Q, h, hv, hn => hn .norm _ _ _ _ _ hv h
  | c :: r, σ, a, w, im, ρ, K, Q, h, hv, hn => by
    refine vc_sound hΓ c (env := env) rfl rfl rfl h hv fun e σ' a' w' im' ρ' hk h' => ?_
    cases e with
    | norm => exact vcL_sound hΓ r h' hk hn
    | exit i => exact hn (.exit i) _ _ _ _ _ hk h'
    | ret => exact hn .ret _ _ _ _ _ hk h'
end
theorem wpL_app {P : Program} {Q : Exit → Act → World → Prop} : ∀ (l m : List Code) (a : Act) (w : World), wpL P (Exit.then (fun a w => wpL P Q m a w) Q) l a w → wpL P Q (l ++ m) a w
  | [], m, a, w, h => h
  | c :: r, m, a, w, h => by
    refine wp_mono (Q := Exit.then (fun a w => wpL P (Exit.then (fun a w => wpL P Q m a w) Q) r a w) (Exit.then (fun a w => wpL P Q m a w) Q)) h fun e a w he => ?_
    cases e with
    | normal => exact wpL_app r m _ _ he
    | _ => exact he
theorem SA.rebase {w0 w : World} {im0 im : Nat → Prop} {ρ : Ids} {σ : AS} {a : Act} (h : SA w0 noBor im0 im ρ σ a w) : SA w (borOf ρ) im im ρ σ a w :=
  ⟨{ defers := h.st.defers
     len := h.st.len
     slot := h.st.slot
     dom := h.st.dom
     blk := h.st.blk
     inj := h.st.inj
     notim := h.st.notim
     imlt := h.st.imlt
     imold := fun _ h => h
     imnew := fun _ h => .inl h
     own := fun i b m hi => .inr ⟨i, m, hi⟩
     pin := fun i x _ hi => hi
     shp := fun _ _ => rfl
     blt := fun b hb => by obtain ⟨i, m, hi⟩ := hb; exact h.st.rholt hi
     os := rfl
     tape := rfl
     output := rfl
     size := Nat.le_refl _
     frame := fun _ _ _ => rfl }, h.uniq⟩
theorem SA.trans {w0 w w' : World} {im0 im im' : Nat → Prop} {ρ ρ' : Ids} {σ σ' : AS} {a a' : Act} (h : SA w0 noBor im0 im ρ σ a w) (h' : SA w (borOf ρ) im im' ρ' σ' a' w') : SA w0 noBor im0 im' ρ' σ' a' w' := by
  have hmem : ∀ b, (borOf ρ).mem b → w0.heap.size ≤ b := fun b hb => by
    obtain ⟨i, m, hi⟩ := hb
    exact (h.st.own i b m hi).resolve_right fun e => e
  exact ⟨{ defers := h'.st.defers
           len := h'.st.len
           slot := h'.st.slot
           dom := h'.st.dom
           blk := h'.st.blk
           inj := h'.st.inj
           notim := h'.st.notim
           imlt := h'.st.imlt
           imold := fun b hb => h'.st.imold b (h.st.imold b hb)
           imnew := fun b hb => by
             rcases h'.st.imnew b hb with h1 | h1 | h1
             · exact h.st.imnew b h1
             · exact .inr (.inl (Nat.le_trans h.st.size h1))
             · exact .inr (.inl (hmem b h1))
           own := fun i b m hi => by
             rcases h'.st.own i b m hi with h1 | h1
             · exact .inl (Nat.le_trans h.st.size h1)
             · exact .inl (hmem b h1)
           pin := fun i x hlt hi => h.st.pin i x hlt (h'.st.pin i x hlt hi)
           shp := fun b hb => hb.elim
           blt := fun b hb => hb.elim
           os := h'.st.os.trans h.st.os
           tape := h'.st.tape.trans h.st.tape
           output := h'.st.output.trans h.st.output
           size := Nat.le_trans h.st.size h'.st.size
           frame := fun b hb hn => (h'.st.frame b (Nat.lt_of_lt_of_le hb h.st.size) (fun e => by have := hmem b e; omega)).trans (h.st.frame b hb hn) }, h'.uniq⟩
def Facts (w : World) (im : Nat → Prop) (l : List (Value × AV)) : Prop := ∀ p ∈ l, Rep w im noIds p.1 p.2
theorem fn_wild {env : Env} {env2 : Nat → Env} (hP2 : ∀ n, (env2 n).P = env.P) (hyw : env.yw = (0, none)) (hyw2 : ∀ n, (env2 n).yw = (0, some n))
    (hΓ : ∀ f s, env.spec f = some s → Holds env.P f s) (hΓ2 : ∀ n f s, (env2 n).spec f = some s → HoldsN n env.P f s) {f : FuncId} {fn : Func} {s : Spec} (hf : env.P.funcs[f]? = some fn)
    (hc : ∀ args w, (callFunc f args).run env.P w = .ok (.enter f args) w) {l1 l2 l3 : List Code} {c : Code} (hb : fn.body = some c) (hl : seqs c = l1 ++ (l2 ++ l3)) (hown : s.own = [])
    (hv : ∀ args k, s.run args [] k → Nat.ble args.length fn.ntmps = true ∧ ∃ (V X : Type) (st : V → AS) (I : V → Prop) (st1 st2 st3 : V → X → AS) (facts : V → X → List (Value × AV)) (loops1 : List Nat → Nat → Option LoopAnn) (loops2 : V → X → Nat → List Nat → Nat → Option LoopAnn) (loops3 : V → X → List Nat → Nat → Option LoopAnn),
      (∀ v w0 im0 im ρ a w, SA w0 noBor im0 im ρ (st v) a w → ∃ x, SA w0 noBor im0 im ρ (st1 v x) a w ∧ Facts w im (facts v x)) ∧
      (∀ v x w0 im0 im ρ a w, SA w0 noBor im0 im ρ (st2 v x) a w → Facts w im (facts v x) → SA w0 noBor im0 im ρ (st3 v x) a w) ∧
      Ok (vcL { env with loops := loops1 } l1 ⟨pad args fn.ntmps, [], []⟩ fun e σ => match e with
        | .norm => ∃ v, fits σ (st v) (I v)
        | .ret => finish env.P s.ro σ fn.results.toList k
        | .exit _ => False) ∧
      (∀ v x n, I v → Ok (vcL { env2 n with loops := loops2 v x n } l2 (st1 v x) fun e σ => match e with
        | .norm => fits σ (st2 v x) True
        | .ret => finish env.P s.ro σ fn.results.toList k
        | .exit _ => False)) ∧
      ∀ v x, I v → Ok (vcL { env with loops := loops3 v x } l3 (st3 v x) fun e σ => match e with
        | .norm | .ret => finish env.P s.ro σ fn.results.toList k
        | .exit _ => False)) : Holds env.P f s := by
  refine HoldsA.h (fun w => ?_) hown
  intro im vals args k o a next Q him hKc hlen hrep hrun hnext
  rw [hc]
  obtain ⟨hle, V, X, st, I, st1, st2, st3, facts, loops1, loops2, loops3, hpin, hback, ⟨hv1⟩, hv2, hv3⟩ := hv args k hrun
  show Calls env.P f vals w _
  have h0 := start_SA (fn := fn) him hlen hrep (Nat.le_of_ble_eq_true hle)
  have hG : ∀ {L}, Gam env.P env.spec ({ env with loops := L } : Env).yw w noBor im := fun {L} =>
    ⟨fun f s h => (hΓ f s h).n _, hKc, fun b hb => ⟨him b hb, fun e => e⟩, by show env.yw.1 ≤ _ ∧ _; rw [hyw]; exact ⟨Nat.zero_le _, fun _ _ => Nat.zero_le _⟩, by show ∀ n, env.yw.2 = some n → _; rw [hyw]; intro _ e; cases e⟩
  have main : ∀ (QQ : Exit → Act → World → Prop), (∀ a' w', (a'.defers = [] ∧ ∃ v, (results fn a'.tmps).run env.P w' = .ok v w' ∧ next (a.put o.dst v) w') → QQ .normal a' w') →
      (∀ a' w', (a'.defers = [] ∧ ∃ v, (results fn a'.tmps).run env.P w' = .ok v w' ∧ next (a.put o.dst v) w') → QQ .ret a' w') →
      c.wp env.P QQ { tmps := vals ++ Array.replicate (fn.ntmps - vals.size) undef, defers := [] } w := by
    intro QQ hQn hQr
    have key : ∀ {σ' : AS} {a' : Act} {w' : World} {im' : Nat → Prop} {ρ' : Ids}, SA w noBor im im' ρ' σ' a' w' → finish env.P s.ro σ' fn.results.toList k → a'.defers = [] ∧ ∃ v, (results fn a'.tmps).run env.P w' = .ok v w' ∧ next (a.put o.dst v) w' := fun h' hk => by
      obtain ⟨v, im2, ρ2, r, F, h1, h2, h3⟩ := finish_sound h' hk him
      exact ⟨h'.st.defers, v, h1, hnext _ _ _ _ _ _ h2 h3⟩
    refine seqs_wp c ?_
    rw [hl]
    refine wpL_app _ _ _ _ ?_
    refine vcL_sound (env := { env with loops := loops1 }) hG l1 h0 hv1 fun e σ a1 w1 im1 ρ1 hk h1 => ?_
    cases e with
    | exit i => exact hk.elim
    | ret => exact hQr _ _ (key h1 hk)
    | norm =>
      obtain ⟨v, hfit⟩ := hk
      obtain ⟨ρ1', h1, hI⟩ := fits_sound h1 hfit
      obtain ⟨x, h1x, hF⟩ := hpin v _ _ _ _ _ _ h1
      have h2 := h1x.rebase
      have him1 := h1.st.imlt
      refine wpL_app _ _ _ _ ?_
      have hK1 : Kc w1 im1 := Kc.mono h1.st.imold (fun b hb => h1.st.frame b (him b hb) (fun e => e)) hKc
      have hG2 : Gam (env2 w1.heap.size).P (env2 w1.heap.size).spec ({ env2 w1.heap.size with loops := loops2 v x w1.heap.size } : Env).yw w1 (borOf ρ1') im1 :=
        ⟨fun f s h => by rw [hP2]; exact hΓ2 _ f s h, hK1, fun b hb => ⟨him1 b hb, fun ⟨i, m, e⟩ => h1.st.notim i b m e hb⟩, by show (env2 _).yw.1 ≤ _ ∧ _; rw [hyw2]; exact ⟨Nat.zero_le _, fun _ _ => Nat.zero_le _⟩,
          by show ∀ n, (env2 _).yw.2 = some n → _; rw [hyw2]; intro n e; cases e; exact Nat.le_refl _⟩
      have h3 := vcL_sound (env := { env2 w1.heap.size with loops := loops2 v x w1.heap.size }) hG2 l2 h2 (hv2 v x w1.heap.size hI).out (Q := Exit.then (fun a w => wpL env.P QQ l3 a w) QQ) (fun e σ2 a2 w2 im2 ρ2 hk h3 => by
        have h4 := h1x.trans h3
        cases e with
        | exit i => exact hk.elim
        | ret => exact hQr _ _ (key h4 hk)
        | norm =>
          obtain ⟨ρ2', h5, -⟩ := fits_sound h3 hk
          have h5' := h1x.trans h5
          have hF2 : Facts w2 im2 (facts v x) := fun p hp => (hF p hp).stable (fun b hb => h5.st.frame b (him1 b hb) (fun ⟨i, m, e⟩ => h1.st.notim i b m e hb)) (fun b hb => h5.st.imold b hb) (fun _ _ h => h) (fun _ _ _ e => by simp [noIds] at e)
          have h6 := hback v x _ _ _ _ _ _ h5' hF2
          refine vcL_sound (env := { env with loops := loops3 v x }) hG l3 h6 (hv3 v x hI).out fun e σ3 a3 w3 im3 ρ3 hk h7 => ?_
          cases e with
          | norm => exact hQn _ _ (key h7 hk)
          | ret => exact hQr _ _ (key h7 hk)
          | exit i => exact hk.elim)
      have e : ({ env2 w1.heap.size with loops := loops2 v x w1.heap.size } : Env).P = env.P := hP2 _
      rw [e] at h3
      exact h3
  exact calls_of_wp hf hb (main _ (fun _ _ h => h) (fun _ _ h => h))
def TabOkN (n : Nat) (P : Program) : Tab → Prop
  | [] => True
  | (j, s) :: r => HoldsN n P j s ∧ TabOkN n P r
theorem tabN_ok {n : Nat} {P : Program} : ∀ {T : Tab}, TabOkN n P T → ∀ f s, look T f = some s → HoldsN n P f s
  | [], _, f, s, h => by cases h
  | (j, t) :: r, hT, f, s, h => by
    unfold look at h
    split at h
    · rename_i e
      have := nbeq e
      subst this
      cases h
      exact hT.1
    · exact tabN_ok hT.2 f s h
theorem TabOk.n {P : Program} (n : Nat) : ∀ {T : Tab}, TabOk P T → TabOkN n P T
  | [], _ => trivial
  | (_, _) :: _, h => ⟨h.1.n n, TabOk.n n h.2⟩
def mkY (P : Program) (code : TypeId → Nat) (yw : Nat × Option Nat) (T : Tab) : Env := ⟨P, code, look T, fun _ _ => none, fun _ _ => none, [], false, 0, 0, fun _ => 0, yw⟩
def oldA : AV → AV
  | .sl 12 xs => .sl 8 (xs.map YMsg.old)
  | .sl 13 xs => .sl 9 (xs.map YPut.old)
  | x => x
theorem inv_both {w : World} {im : Nat → Prop} {ρ : Ids} {v : Value} {a b : AV} (h : Rep w im ρ v (.both a b)) : Rep w im noIds v a ∧ Rep w im noIds v b := by cases h; exact ⟨‹_›, ‹_›⟩
theorem oldA_rep {w : World} {im : Nat → Prop} {ρ : Ids} {v : Value} {x : AV} (h : Rep w im ρ v x) : Rep w im ρ v (oldA x) := by
  unfold oldA
  split
  · cases h with
    | sl0 => exact .sl0
    | emp => exact .emp
    | sl hb hn hcap hm vals hcell hone hrep =>
      refine .sl hb (by simpa using hn) hcap hm vals (fun i j hi hj => hcell i j (by simpa using hi) hj) (fun i j hi hj => hone i j (by simpa using hi) hj) (fun i j x hx hj => ?_)
      rw [List.getElem?_map] at hx
      simp only [Option.map_eq_some_iff] at hx
      obtain ⟨y, hy, rfl⟩ := hx
      have := hrep i j y hy hj
      match j, hj with
      | 0, _ => exact this
      | 1, _ => exact this
      | 2, _ => exact (inv_both this).1
  · cases h with
    | sl0 => exact .sl0
    | emp => exact .emp
    | sl hb hn hcap hm vals hcell hone hrep =>
      refine .sl hb (by simpa using hn) hcap hm vals (fun i j hi hj => hcell i j (by simpa using hi) hj) (fun i j hi hj => hone i j (by simpa using hi) hj) (fun i j x hx hj => ?_)
      rw [List.getElem?_map] at hx
      simp only [Option.map_eq_some_iff] at hx
      obtain ⟨y, hy, rfl⟩ := hx
      have := hrep i j y hy hj
      match j, hj with
      | 0, _ => exact this
      | 1, _ => exact (inv_both this).1
  · exact h
theorem Holds.oldA {P : Program} {f : FuncId} {s : Spec} (h : Holds P f s) (hown : s.own = [] := by rfl) : Holds P f { s with run := fun args B k => s.run (args.map Eng.oldA) B k } :=
  h.argUp (fun l => l.map Eng.oldA) (fun l => by simp) (fun w im ρ v l j hr => by rw [nth_map_dead (f := Eng.oldA) rfl]; exact oldA_rep hr) hown
theorem SA.setSlot {w0 w : World} {bor : Bor} {im0 im : Nat → Prop} {ρ : Ids} {σ : AS} {a : Act} (h : SA w0 bor im0 im ρ σ a w) (hg : σ.gs = []) (i : Nat) {x : AV} (hr : ∀ v, a.tmps[i]? = some v → Rep w im ρ v x) : SA w0 bor im0 im ρ ⟨setNth σ.slots i x, σ.gs, σ.locs⟩ a w := by
  refine h.reslot (fun _ _ => rfl) (by rw [hg]; rfl) hr
theorem SA.atSlot {w0 w : World} {bor : Bor} {im0 im : Nat → Prop} {ρ : Ids} {σ : AS} {a : Act} (h : SA w0 bor im0 im ρ σ a w) (hg : σ.gs = []) {i : Nat} {v : Value} (hv : a.tmps[i]? = some v) : Rep w im ρ v (nth σ.slots i) := by
  have := h.st.slot i v hv
  unfold SRep at this
  rw [hg] at this
  exact this
theorem SA.pinSlot {w0 w : World} {bor : Bor} {im0 im : Nat → Prop} {ρ : Ids} {σ : AS} {a : Act} (h : SA w0 bor im0 im ρ σ a w) (hg : σ.gs = []) (i : Nat) {x : AV} (hx : nth σ.slots i = x) (hn : noIdsB x = true) :
    SA w0 bor im0 im ρ ⟨setNth σ.slots i (.both x (.val (a.tmps.getD i undef))), σ.gs, σ.locs⟩ a w := by
  refine h.setSlot hg i fun v hv => ?_
  have hr := h.atSlot hg hv
  rw [hx] at hr
  have e : a.tmps.getD i undef = v := by
    have := get_lt hv
    rw [Array.getElem?_eq_getElem this] at hv
    simp only [Option.some.injEq] at hv
    simp [Array.getD, this, hv]
  rw [e]
  exact .both (noIds_rep hr hn) .val
theorem SA.factSlot {w0 w : World} {bor : Bor} {im0 im : Nat → Prop} {ρ : Ids} {σ : AS} {a : Act} (h : SA w0 bor im0 im ρ σ a w) (hg : σ.gs = []) (i : Nat) {x : AV} (hx : nth σ.slots i = x) (hn : noIdsB x = true) (hi : i < σ.slots.length) : Rep w im noIds (a.tmps.getD i undef) x := by
  have hlt : i < a.tmps.size := by rw [h.st.len]; exact hi
  have hr := h.atSlot hg (arr_get hlt)
  rw [hx] at hr
  exact noIds_rep hr hn
theorem SA.backSlot {w0 w : World} {bor : Bor} {im0 im : Nat → Prop} {ρ : Ids} {σ : AS} {a : Act} (h : SA w0 bor im0 im ρ σ a w) (hg : σ.gs = []) (i : Nat) {u : Value} {x : AV} (hx : nth σ.slots i = .val u) (hr : Rep w im noIds u x) :
    SA w0 bor im0 im ρ ⟨setNth σ.slots i x, σ.gs, σ.locs⟩ a w := by
  refine h.setSlot hg i fun v hv => ?_
  have hs := h.atSlot hg hv
  rw [hx] at hs
  cases hs
  exact hr.any
theorem SA.pinCell {w0 w : World} {bor : Bor} {im0 im : Nat → Prop} {ρ : Ids} {σ : AS} {a : Act} (h : SA w0 bor im0 im ρ σ a w) {id : Nat} {cs : List AV} (hl : lget σ.locs id = some (.cells cs)) (j : Nat) {x : AV} (hx : nth cs j = x) (hn : noIdsB x = true) (hj : j < cs.length) :
    ∃ u, SA w0 bor im0 im ρ ⟨σ.slots, σ.gs, lset σ.locs id (.cells (setNth cs j (.both x (.val u))))⟩ a w ∧ Rep w im noIds u x := by
  obtain ⟨ob, h1, b, cur, e, q1, q2, q3, q4, q5⟩ := h.st.blk _ _ hl
  obtain ⟨u, hu⟩ : ∃ u, cur[j]? = some u := ⟨_, arr_get (by omega)⟩
  have hr := q5 j u hu
  rw [hx] at hr
  have hr' := noIds_rep hr hn
  refine ⟨u, ⟨{ h.st with dom := fun i hi => ?_, blk := fun i b' hi => ?_ }, h.uniq.lset id _⟩, hr'⟩
  · rw [lget_lset hl] at hi
    unfold upd at hi
    split at hi
    · cases hi
    · exact h.st.dom i hi
  · rw [lget_lset hl] at hi
    unfold upd at hi
    split at hi
    · rename_i e1
      simp only [Option.some.injEq] at hi
      subst hi; subst e1
      refine ⟨ob, h1, b, cur, e, q1, q2, by rw [setNth_eq]; simpa using q3, q4, fun k v hk => ?_⟩
      rw [nth_set]
      split
      · rename_i hc
        obtain ⟨rfl, -⟩ := hc
        rw [hu] at hk
        simp only [Option.some.injEq] at hk
        subst hk
        exact .both hr' .val
      · exact q5 k v hk
    · exact h.st.blk i b' hi
theorem SA.backCell {w0 w : World} {bor : Bor} {im0 im : Nat → Prop} {ρ : Ids} {σ : AS} {a : Act} (h : SA w0 bor im0 im ρ σ a w) {id : Nat} {cs : List AV} (hl : lget σ.locs id = some (.cells cs)) (j : Nat) {u : Value} {x : AV} (hx : nth cs j = .val u) (hr : Rep w im noIds u x) :
    SA w0 bor im0 im ρ ⟨σ.slots, σ.gs, lset σ.locs id (.cells (setNth cs j x))⟩ a w := by
  refine h.reblk hl (by rw [setNth_eq]; simp) fun k v hv => ?_
  rw [nth_set]
  split
  · rename_i hc
    obtain ⟨rfl, -⟩ := hc
    rw [hx] at hv
    cases hv
    exact hr.any
  · exact hv
end Go.Eng
