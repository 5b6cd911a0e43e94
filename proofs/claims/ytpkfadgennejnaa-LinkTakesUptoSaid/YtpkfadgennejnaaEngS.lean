import Derived.Test.YtpkfadgennejnaaEngM
import Derived.Orders
namespace Go.Eng
open Go
set_option linter.unusedVariables false
set_option linter.unusedSimpArgs false

section
variable {P : Program} {ops : Array Oper} {Q : Exit → Act → World → Prop} {a : Act} {w : World}

def keepsI (lf : FuncId → Bool) (ops : Array Oper) (i : Nat) : Bool := match ops[i]? with
  | some o => keepsB lf o.op
  | none => true

/-- In this world, and in whatever later one, an operation leaves this value, and nothing else. -/
def YieldsK (P : Program) (ops : Array Oper) (o : Oper) (v : Value) (a : Act) (w : World) : Prop :=
  (Region.wanted o (yielded ops a.tmps) = true ∧ Run P w (execOp a.eval o) (.value v)) ∨ (Region.wanted o (yielded ops a.tmps) = false ∧ v = undef)

theorem YieldsK.later {o : Oper} {v : Value} {w' : World} (hy : YieldsK P ops o v a w) (h : Agr w w') : YieldsK P ops o v a w' :=
  hy.imp (fun ⟨h1, h2⟩ => ⟨h1, fun w'' h3 => h2 w'' (h.trans h3)⟩) id

theorem slot_run {o : Oper} (hs : slotB o.op = true) {ev : Operand → Value} {v : Value} {w : World} (h : (execOp ev o).run P w = .ok (.value v) w) (w' : World) : (execOp ev o).run P w' = .ok (.value v) w' := by
  unfold slotB at hs
  unfold execOp at h ⊢
  split at hs
  · rename_i t i ho
    rw [ho] at h ⊢
    dsimp only at h ⊢
    simp only [Sem.run_bind] at h ⊢
    unfold Instr.extract at h ⊢
    generalize ev t = u at h ⊢
    cases u <;> (try (simp at h; done))
    rename_i vs
    dsimp only at h ⊢
    cases hv : vs[i]? with
    | none => rw [hv] at h; simp at h
    | some x => rw [hv] at h; simp at h ⊢; exact h
  · rename_i x ho
    rw [ho] at h ⊢
    simpa using h
  · rename_i x ho
    rw [ho] at h ⊢
    simpa using h
  · cases hs
theorem YieldsK.laterS {o : Oper} {v : Value} {w' : World} (hs : slotB o.op = true) (hy : YieldsK P ops o v a w) : YieldsK P ops o v a w' :=
  hy.imp (fun ⟨h1, h2⟩ => ⟨h1, fun w'' h3 => slot_run hs (h2 w (Agr.refl w)) w''⟩) id

theorem YieldsK.wpOp {i : Nat} {o : Oper} {v : Value} (hi : ops[i]? = some o) (hy : YieldsK P ops o v a w) {K : Act → World → Prop} (h : K (a.put o.dst v) w) : wpOp P ops Q i K a w := by
  unfold Go.wpOp
  simp only [hi]
  rcases hy with ⟨hw, hv⟩ | ⟨hw, rfl⟩
  · simp only [hw, if_true, Oper.wp, hv w (Agr.refl w), Oper.upon]; exact .inl h
  · simp only [hw, Bool.false_eq_true, if_false]; exact h

theorem YieldsK.of_same {o : Oper} {v : Value} {a a' : Act} (hy : YieldsK P ops o v a w) (he : execOp a'.eval o = execOp a.eval o)
    (hw : Region.wanted o (yielded ops a'.tmps) = Region.wanted o (yielded ops a.tmps)) : YieldsK P ops o v a' w := by
  unfold YieldsK at *
  rw [he, hw]
  exact hy

theorem wpOp_putK {lf : FuncId → Bool} {j : Nat} {oi oj : Oper} {v : Value} (hj : ops[j]? = some oj) (hap : oi.apart ops oj = true) (hkj : keepsB lf oj.op = true ∨ slotB oi.op = true)
    (hsi : ∀ cs b, oi.op ≠ .select cs b) (hsj : ∀ cs b, oj.op ≠ .select cs b) (hQ : ∀ c a w, ¬ Q (.panic c) a w) {K : Act → World → Prop}
    (hy : YieldsK P ops oi v a w) (h : wpOp P ops Q j (fun a' w' => (keepsI lf ops j = true → Agr w w') ∧ K a' w') (a.put oi.dst v) w) :
    wpOp P ops Q j (fun a' w' => (keepsI lf ops j = true → Agr w w') ∧ YieldsK P ops oi v a' w' ∧ K (a'.put oi.dst v) w') a w := by
  obtain ⟨h1, h2, h3⟩ := Oper.apart_spec hap
  have lat : ∀ {a : Act} {w' : World}, YieldsK P ops oi v a w → (keepsI lf ops j = true → Agr w w') → YieldsK P ops oi v a w' := fun hy hA => by
    rcases hkj with hk | hk
    · exact hy.later (hA (by unfold keepsI; rw [hj]; exact hk))
    · exact hy.laterS hk
  have keep : ∀ (a : Act), YieldsK P ops oi v a w → ∀ u, YieldsK P ops oi v (a.put oj.dst u) w := fun a hy u =>
    hy.of_same (execOp_put oi hsi a oj.dst u h3) (wanted_put oi a oj.dst u h3)
  have keepD : ∀ d, YieldsK P ops oi v { a with defers := d :: a.defers } w := fun d => hy.of_same rfl rfl
  unfold wpOp at *
  simp only [hj] at *
  rw [wanted_put oj a oi.dst v h1] at h
  split
  · rename_i hw
    simp only [hw, if_true] at h
    rcases h with h | ⟨hasks, hlets⟩
    case inr => exact .inr ⟨by unfold Oper.asks at *; rw [execOp_put oj hsj a oi.dst v h1] at hasks; exact hasks, hlets⟩
    refine .inl ?_
    unfold Oper.wp at *
    rw [execOp_put oj hsj a oi.dst v h1] at h
    generalize (execOp a.eval oj).run P w = r at *
    cases r with
    | ok n w' =>
      cases n <;> simp only [Oper.upon] at h ⊢
      case value u => exact ⟨h.1, lat (keep a hy u) h.1, by rw [← Act.put_comm a v u h2]; exact h.2⟩
      case skip => exact ⟨h.1, lat (keep a hy _) h.1, by rw [← Act.put_comm a v undef h2]; exact h.2⟩
      case defer d =>
        refine ⟨h.1, lat (keep _ (keepD d) _) h.1, ?_⟩
        rw [← Act.put_comm _ v undef h2, ← Act.put_defers]
        exact h.2
      case enter f args =>
        refine Calls.mono h fun e w'' he => ?_
        cases e with
        | returned u => exact ⟨he.1, lat (keep a hy u) he.1, by rw [← Act.put_comm a v u h2]; exact he.2⟩
        | panicked c => exact (hQ _ _ _ he).elim
        | outgrown => exact he
      case row row args => exact Rows.mono h fun u w'' he => ⟨he.1, lat (keep a hy u) he.1, by rw [← Act.put_comm a v u h2]; exact he.2⟩
    | halt x w' =>
      cases x <;> simp only [Oper.upon] at h ⊢
      case panic u => exact (hQ _ _ _ h).elim
  · rename_i hw
    simp only [hw] at h
    exact ⟨h.1, lat (keep a hy _) h.1, by rw [← Act.put_comm a v undef h2]; exact h.2⟩

/-- Whatever order is picked from here on; and what leaves all that stands leaves it. -/
def wpAnyK (lf : FuncId → Bool) (P : Program) (ops : Array Oper) (Q : Exit → Act → World → Prop) : Nat → Array Bool → Act → World → Prop
  | 0, listed, a, w => Region.ready .any ops listed = [] ∧ Q .normal a w
  | fuel + 1, listed, a, w =>
    (Region.ready .any ops listed = [] → Q .normal a w) ∧
    ∀ i ∈ Region.ready .any ops listed, wpOp P ops Q i (fun a' w' => (keepsI lf ops i = true → Agr w w') ∧ wpAnyK lf P ops Q fuel (listed.setIfInBounds i true) a' w') a w

theorem wpAny_of_K {lf : FuncId → Bool} : ∀ (fuel : Nat) (listed : Array Bool) (a : Act) (w : World), wpAnyK lf P ops Q fuel listed a w → wpAny P .any ops Q fuel listed a w
  | 0, _, _, _, h => h
  | fuel + 1, _, _, _, h => ⟨h.1, fun i hi => wpOp_mono (fun a' w' h' => wpAny_of_K fuel _ a' w' h'.2) (h.2 i hi)⟩

theorem wpAnyK_first {lf : FuncId → Bool} {i : Nat} {oi : Oper} {v : Value} {D : Nat → Bool} (hD : ∀ j oj, ops[j]? = some oj → D j = true → ∃ e ∈ oj.after, Region.binds .any e = true ∧ (e.on = i ∨ D e.on = true)) (hi : ops[i]? = some oi) (hsel : ∀ (j : Nat) (o : Oper) cs b, ops[j]? = some o → o.op ≠ .select cs b)
    (hQ : ∀ c a w, ¬ Q (.panic c) a w) :
    ∀ (fuel : Nat) (listed : Array Bool) (a : Act) (w : World),
      (∀ j, D j = true → j ≠ i → listed.getD j false = false) →
      (∀ j oj, ops[j]? = some oj → j ≠ i → listed.getD j true = false → D j = false → oi.apart ops oj = true ∧ (keepsB lf oj.op = true ∨ slotB oi.op = true)) →
      i ∈ Region.ready .any ops listed → YieldsK P ops oi v a w →
      wpAnyK lf P ops Q fuel (listed.setIfInBounds i true) (a.put oi.dst v) w → wpAnyK lf P ops Q (fuel + 1) listed a w := by
  intro fuel
  induction fuel with
  | zero =>
    intro listed a w _ _ hr hy H
    refine ⟨fun h => (by rw [h] at hr; cases hr), fun j hj => ?_⟩
    by_cases hji : j = i
    · subst hji; exact hy.wpOp hi ⟨fun _ => Agr.refl w, H⟩
    · have := ready_mono hj hji
      rw [H.1] at this
      cases this
  | succ fuel ih =>
    intro listed a w hun0 hfree hr hy H
    refine ⟨fun h => (by rw [h] at hr; cases hr), fun j hj => ?_⟩
    by_cases hji : j = i
    · subst hji; exact hy.wpOp hi ⟨fun _ => Agr.refl w, H⟩
    · have h1 := H.2 j (ready_mono hj hji)
      obtain ⟨hjun, oj, hoj, hall⟩ := mem_ready.1 hj
      have hi0 : listed.getD i false = false := by
        have h0 := (mem_ready.1 hr).1
        rcases Nat.lt_or_ge i listed.size with h' | h'
        · simp [h'] at h0 ⊢; exact h0
        · simp [Array.getElem?_eq_none h']
      have hnot : D j = false := by
        cases hDj : D j with
        | false => rfl
        | true =>
          obtain ⟨e, he, hb, hor⟩ := hD j oj hoj hDj
          have h1 := hall e he hb
          by_cases hei : e.on = i
          · rw [hei, hi0] at h1; cases h1
          · rcases hor with c | c
            · exact absurd c hei
            · rw [hun0 _ c hei] at h1; cases h1
      obtain ⟨f1, f2⟩ := hfree j oj hoj hji hjun hnot
      have h2 := wpOp_putK hoj f1 f2 (fun cs b => hsel i oi cs b hi) (fun cs b => hsel j oj cs b hoj) hQ hy h1
      have hfree' : ∀ k ok, ops[k]? = some ok → k ≠ i → (listed.setIfInBounds j true).getD k true = false →
          D k = false → oi.apart ops ok = true ∧ (keepsB lf ok.op = true ∨ slotB oi.op = true) := fun k ok hk hki hun hno => by
        refine hfree k ok hk hki ?_ hno
        by_cases hjk : j = k
        · subst hjk; exact hjun
        · rw [getD_set_ne true hjk] at hun; exact hun
      have hun' : ∀ k, D k = true → k ≠ i → (listed.setIfInBounds j true).getD k false = false := fun k hk hki => by
        have hjk : j ≠ k := fun e => by rw [← e, hnot] at hk; cases hk
        rw [getD_set_ne false hjk]; exact hun0 k hk hki
      refine wpOp_mono (fun a' w' h3 => ⟨h3.1, ih (listed.setIfInBounds j true) a' w' hun' hfree' (ready_mono hr (Ne.symm hji)) h3.2.1 ?_⟩) h2
      rw [Array.setIfInBounds_comm _ _ hji]
      exact h3.2.2

/-- A region that draws its order. -/
theorem wp_region_K {lf : FuncId → Bool} {id : Nat} (hm : P.follows .mixedOrders = true) {R : Act → World → Prop} (hR : ∀ a w, R a w → Q .normal a w)
    (h : wpAnyK lf P ops (fun e a w => match e with | .normal => R a w | _ => False) ops.size (Array.replicate ops.size false) a { w with drawn := w.drawn + 1 }) : (Code.region id ops true).wp P Q a w :=
  wp_mono (wp_region_any hm (wpAny_of_K _ _ _ _ h)) fun e a w he => by
    cases e with
    | normal => exact hR _ _ he
    | _ => exact he.elim
end

/-! What has come up, as a number's bits. -/
def arrOf (n m : Nat) : Array Bool := ((List.range n).map fun i => Nat.testBit m i).toArray
theorem arrOf_get (n m j : Nat) (d : Bool) : (arrOf n m).getD j d = if j < n then Nat.testBit m j else d := by
  unfold arrOf
  rw [Array.getD_eq_getD_getElem?]
  by_cases h : j < n
  · rw [if_pos h]; simp [h]
  · rw [if_neg h]; simp [h]
theorem arr_zero (n : Nat) : arrOf n 0 = Array.replicate n false := by
  unfold arrOf
  apply Array.ext
  · simp
  · intro i h1 h2; simp
theorem arr_set (n m i : Nat) : (arrOf n m).setIfInBounds i true = arrOf n (m ||| 2 ^ i) := by
  apply Array.ext
  · simp [arrOf]
  · intro j h1 h2
    have hj : j < n := by simpa [arrOf] using h2
    rw [Array.getElem_setIfInBounds]
    · by_cases e : i = j
      · subst e
        simp [arrOf, Nat.testBit_or, Nat.testBit_two_pow_self]
      · simp [arrOf, e, Nat.testBit_or, Nat.testBit_two_pow]
    · simpa [arrOf] using hj
theorem waitsM_eq (n m : Nat) (l : List Edge) : waitsM n m l = l.all fun e => !Region.binds .any e || (arrOf n m).getD e.on false := by
  induction l with
  | nil => rfl
  | cons e r ih =>
    unfold waitsM
    rw [List.all_cons, ← ih, arrOf_get]
    cases Region.binds .any e with
    | false => simp
    | true =>
      simp only [Bool.not_true, Bool.false_or]
      by_cases h : e.on < n
      · rw [if_pos h]
        have : Nat.blt e.on n = true := by simpa [Nat.blt, Nat.succ_le_iff] using h
        rw [this]
        cases Nat.testBit m e.on <;> rfl
      · rw [if_neg h]
        have : Nat.blt e.on n = false := by
          cases hb : Nat.blt e.on n with
          | false => rfl
          | true => exact absurd (by simpa [Nat.blt, Nat.succ_le_iff] using hb) h
        rw [this]; rfl
theorem readyM_eq {ops : Array Oper} (m : Nat) : ∀ (l : List Oper) (k : Nat), (∀ j, l[j]? = ops[k + j]?) → k + l.length = ops.size →
    readyM ops.size m l k = (List.range' k l.length).filter fun i => !(arrOf ops.size m).getD i true && ((ops[i]?).map (·.after.all fun e => !Region.binds .any e || (arrOf ops.size m).getD e.on false)).getD false
  | [], k, _, _ => rfl
  | o :: r, k, hl, hk => by
    have ih := readyM_eq m r (k + 1) (fun j => by have := hl (j + 1); simpa [Nat.add_assoc, Nat.add_comm 1 j] using this) (by simp only [List.length_cons] at hk; omega)
    have h0 : ops[k]? = some o := by simpa using (hl 0).symm
    simp only [List.length_cons] at hk
    unfold readyM
    have e1 : ((some o).map fun x => x.after.all fun e => !Region.binds .any e || (arrOf ops.size m).getD e.on false).getD false = waitsM ops.size m o.after.toList := by
      rw [waitsM_eq]; simp
    have e2 : (arrOf ops.size m).getD k true = Nat.testBit m k := by rw [arrOf_get, if_pos (show k < ops.size by omega)]
    rw [List.length_cons, List.range'_succ, List.filter_cons, h0, ← ih, e1, e2]
    split <;> rename_i hc
    · rw [if_pos hc]
    · rw [if_neg (by rw [hc]; simp)]
theorem ready_eq {ops : Array Oper} (m : Nat) : Region.ready .any ops (arrOf ops.size m) = readyM ops.toList.length m ops.toList 0 := by
  have := readyM_eq (ops := ops) m ops.toList 0 (by simp) (by simp)
  rw [Array.length_toList, this, Array.length_toList, ← List.range_eq_range']
  rfl
theorem waitsD_ok {i D : Nat} {l : List Edge} (h : waitsD i D l = true) : ∃ e ∈ l, Region.binds .any e = true ∧ (e.on = i ∨ Nat.testBit D e.on = true) := by
  induction l with
  | nil => cases h
  | cons e r ih =>
    unfold waitsD at h
    split at h
    · rename_i hc
      simp only [Bool.and_eq_true, Bool.or_eq_true] at hc
      exact ⟨e, List.mem_cons_self .., hc.1, hc.2.imp nbeq id⟩
    · obtain ⟨e', h1, h2⟩ := ih h
      exact ⟨e', List.mem_cons_of_mem _ h1, h2⟩
theorem depM_mono {i : Nat} : ∀ (l : List Oper) (k D x : Nat), Nat.testBit D x = true → Nat.testBit (depM i l k D) x = true
  | [], _, _, _, h => h
  | o :: r, k, D, x, h => by
    unfold depM
    split
    · exact depM_mono r _ _ x (by rw [Nat.testBit_or, h]; rfl)
    · exact depM_mono r _ _ x h
theorem depM_low {i : Nat} : ∀ (l : List Oper) (k D x : Nat), x < k → Nat.testBit (depM i l k D) x = true → Nat.testBit D x = true
  | [], _, _, _, _, h => h
  | o :: r, k, D, x, hx, h => by
    unfold depM at h
    split at h
    · have := depM_low r (k + 1) _ x (by omega) h
      rw [Nat.testBit_or, Nat.testBit_two_pow, decide_eq_false (by omega), Bool.or_false] at this
      exact this
    · exact depM_low r (k + 1) _ x (by omega) h
theorem depM_ok {i : Nat} : ∀ (l : List Oper) (k D j : Nat) (oj : Oper), l[j]? = some oj → Nat.testBit (depM i l k D) (k + j) = true → Nat.testBit D (k + j) = true ∨ ∃ e ∈ oj.after, Region.binds .any e = true ∧ (e.on = i ∨ Nat.testBit (depM i l k D) e.on = true)
  | [], _, _, j, _, hj, _ => by simp at hj
  | o :: r, k, D, j, oj, hj, h => by
    unfold depM at h ⊢
    cases j with
    | zero =>
      simp at hj
      subst hj
      split
      · rename_i hc
        obtain ⟨e, h1, h2, h3⟩ := waitsD_ok hc
        exact .inr ⟨e, by simpa using h1, h2, h3.imp id fun h => depM_mono r _ _ _ (by rw [Nat.testBit_or, h]; rfl)⟩
      · rename_i hc
        split at h
        · rename_i hc2; rw [hc] at hc2; cases hc2
        · exact .inl (depM_low r (k + 1) D k (by omega) h)
    | succ j =>
      have hj' : r[j]? = some oj := by simpa using hj
      split at h
      · rename_i hc
        have h' : Nat.testBit (depM i r (k + 1) (D ||| 2 ^ k)) (k + 1 + j) = true := by rw [show k + 1 + j = k + (j + 1) by omega]; exact h
        rcases depM_ok r (k + 1) _ j oj hj' h' with c | c
        · left
          rw [Nat.testBit_or, Nat.testBit_two_pow, decide_eq_false (by omega), Bool.or_false, show k + 1 + j = k + (j + 1) by omega] at c
          exact c
        · right; exact c
      · rename_i hc
        have h' : Nat.testBit (depM i r (k + 1) D) (k + 1 + j) = true := by rw [show k + 1 + j = k + (j + 1) by omega]; exact h
        rcases depM_ok r (k + 1) _ j oj hj' h' with c | c
        · left; rw [show k + 1 + j = k + (j + 1) by omega] at c; exact c
        · right; exact c
theorem forceNB_eq (n : Nat) (k : Nat → Bool) : forceNB n k = k n := by cases n <;> rfl
theorem freeM_get {lf : FuncId → Bool} {ops : Array Oper} {m i D : Nat} {oi : Oper} : ∀ {l : List Oper} {k : Nat}, freeM lf ops m i D oi l k = true → ∀ (j : Nat) (oj : Oper), l[j]? = some oj →
    (Nat.beq (k + j) i || (match Nat.testBit D (k + j) with | true => !Nat.testBit m (k + j) | false => Nat.testBit m (k + j) || (oi.apart ops oj && (keepsB lf oj.op || slotB oi.op)))) = true
  | [], _, _, j, oj, h => by simp at h
  | o :: r, k, hf, j, oj, h => by
    unfold freeM at hf
    split at hf
    · rename_i hc
      cases j with
      | zero => simp at h; subst h; exact hc
      | succ j =>
        have := freeM_get hf j oj (by simpa using h)
        rwa [show k + 1 + j = k + (j + 1) by omega] at this
    · cases hf
theorem nbeq_ne {j i : Nat} (hji : j ≠ i) : Nat.beq j i = false := by
  cases hb : Nat.beq j i with
  | false => rfl
  | true => exact absurd (nbeq hb) hji
theorem freeM_ok {lf : FuncId → Bool} {ops : Array Oper} {m i D : Nat} {oi : Oper} (h : freeM lf ops m i D oi ops.toList 0 = true) (j : Nat) (oj : Oper) (hj : ops[j]? = some oj) (hji : j ≠ i) (hun : Nat.testBit m j = false)
    (hno : Nat.testBit D j = false) : oi.apart ops oj = true ∧ (keepsB lf oj.op = true ∨ slotB oi.op = true) := by
  have := freeM_get h j oj (by simpa using hj)
  rw [Nat.zero_add, nbeq_ne hji, hno] at this
  dsimp only at this
  rw [hun] at this
  simpa using this
theorem freeM_un {lf : FuncId → Bool} {ops : Array Oper} {m i D : Nat} {oi : Oper} (h : freeM lf ops m i D oi ops.toList 0 = true) (j : Nat) (hj : j < ops.size) (hji : j ≠ i) (hD : Nat.testBit D j = true) : Nat.testBit m j = false := by
  have := freeM_get h j _ (by rw [Array.getElem?_toList]; exact Array.getElem?_eq_getElem hj)
  rw [Nat.zero_add, nbeq_ne hji, hD] at this
  simpa using this
end Go.Eng
