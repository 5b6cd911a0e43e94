import Derived.Test.YtcdflgfhkohldaaEngC
namespace Go.Eng
open Go
set_option linter.unusedVariables false
set_option linter.unusedSimpArgs false
theorem kindEq_eq {k k' : IntKind} (h : kindEq k k' = true) : k = k' := by
  cases k <;> cases k' <;> simp_all [kindEq]
theorem beqB_eq {a b : Bool} : beqB a b = true ↔ a = b := by cases a <;> cases b <;> simp [beqB]
theorem nbeq {a b : Nat} (h : Nat.beq a b = true) : a = b := Nat.eq_of_beq_eq_true h
theorem nbeqF {a b : Nat} (h : Nat.beq a b = false) : a ≠ b := Nat.ne_of_beq_eq_false h
theorem takeN_eq : ∀ (l : List AV) (n : Nat), takeN l n = l.take n
  | _, 0 => by simp [takeN]
  | [], _ + 1 => by simp [takeN]
  | a :: r, n + 1 => by simp [takeN, takeN_eq r n]
theorem dropN_eq : ∀ (l : List AV) (n : Nat), dropN l n = l.drop n
  | _, 0 => by simp [dropN]
  | [], _ + 1 => by simp [dropN]
  | a :: r, n + 1 => by simp [dropN, dropN_eq r n]
theorem nth_take (l : List AV) (n j : Nat) (h : j < n) : nth (takeN l n) j = nth l j := by
  rw [nth_eq, nth_eq, takeN_eq, List.getElem?_take, if_pos h]
theorem nth_drop (l : List AV) (n j : Nat) : nth (dropN l n) j = nth l (n + j) := by
  rw [nth_eq, nth_eq, dropN_eq, List.getElem?_drop]
theorem nth_ge (l : List AV) (j : Nat) (h : l.length ≤ j) : nth l j = .dead := by
  rw [nth_eq, List.getElem?_eq_none h]; rfl
theorem nth_map (f : AV → AV) (l : List AV) (j : Nat) (h : j < l.length) : nth (l.map f) j = f (nth l j) := by
  rw [nth_eq, nth_eq, List.getElem?_map, List.getElem?_eq_getElem h]; rfl
theorem nth_set (l : List AV) (i j : Nat) (x : AV) : nth (setNth l i x) j = if i = j ∧ j < l.length then x else nth l j := by
  rw [setNth_eq, nth_eq, nth_eq, List.getElem?_set]
  by_cases h : i = j
  · subst h
    by_cases hl : i < l.length <;> simp [hl]
  · simp [h]
section inv
variable {w : World} {im : Nat → Prop} {ρ : Ids} {v : Value}
theorem Rep.inv_int {k n} (h : Rep w im ρ v (.int k n)) : v = .int k n ∧ kwf k n := by cases h; exact ⟨rfl, ‹_›⟩
theorem Rep.inv_bool {b} (h : Rep w im ρ v (.bool b)) : v = .bool b := by cases h; rfl
theorem Rep.inv_str {b} (h : Rep w im ρ v (.str b)) : v = .string b ∧ b.size ≤ maxLen := by cases h; exact ⟨rfl, ‹_›⟩
theorem Rep.inv_nilptr (h : Rep w im ρ v .nilptr) : v = .pointer none := by cases h; rfl
theorem Rep.inv_nilsl (h : Rep w im ρ v .nilsl) : v = .slice none 0 0 := by cases h; rfl
theorem Rep.inv_ptr {i o} (h : Rep w im ρ v (.ptr i o)) : ∃ b m, ρ i = some (some b, m) ∧ v = .pointer (some ⟨b, o, none⟩) := by cases h; exact ⟨_, _, ‹_›, rfl⟩
theorem Rep.inv_eptr {c i x o} (h : Rep w im ρ v (.eptr c i x o)) : ∃ b m, ρ i = some (some b, m) ∧ v = .pointer (some ⟨b, x * szOf c + o, none⟩) := by
  cases h with | eptr h ho => subst ho; exact ⟨_, _, h, rfl⟩
theorem Rep.inv_agg {cs} (h : Rep w im ρ v (.agg cs)) : ∃ vs : Array Value, v = .agg vs ∧ vs.size = cs.length ∧ (∀ (j : Nat) (v : Value), vs[j]? = some v → v.oneCell' = true) ∧ ∀ (j : Nat) (v : Value), vs[j]? = some v → Rep w im ρ v (nth cs j) := by
  cases h; exact ⟨_, rfl, ‹_›, ‹_›, ‹_›⟩
theorem Rep.inv_tup {cs} (h : Rep w im ρ v (.tup cs)) : ∃ vs : Array Value, v = .tuple vs ∧ vs.size = cs.length ∧ ∀ (j : Nat) (v : Value), vs[j]? = some v → Rep w im ρ v (nth cs j) := by
  cases h; exact ⟨_, rfl, ‹_›, ‹_›⟩
theorem Rep.inv_fn {f cs ds} (h : Rep w im ρ v (.fn f cs ds)) : ∃ vs us : Array Value, v = .func f vs us ∧ vs.size = cs.length ∧ us.size = ds.length ∧ (∀ (j : Nat) (v : Value), vs[j]? = some v → Rep w im ρ v (nth cs j)) ∧ ∀ (j : Nat) (v : Value), us[j]? = some v → Rep w im ρ v (nth ds j) := by
  cases h; exact ⟨_, _, rfl, ‹_›, ‹_›, ‹_›, ‹_›⟩
end inv
def BRep (w : World) (im : Nat → Prop) (ρ : Ids) (ob : Option Nat × Nat) : Blk → Prop
  | .cells cs => ∃ b cur e, ob.1 = some b ∧ w.heap[b]? = some (.cells cur e (0, 0)) ∧ cur.size = cs.length ∧ (∀ (j : Nat) (v : Value), cur[j]? = some v → v.oneCell' = true) ∧
      ∀ (j : Nat) (v : Value), cur[j]? = some v → Rep w im ρ v (nth cs j)
  | .row c xs => ob.2 = xs.length ∧ ((ob.1 = none ∧ xs = []) ∨ ∃ b cur e cap, ob.1 = some b ∧ w.heap[b]? = some (.cells cur e (0, 0)) ∧ cur.size = cap * szOf c ∧ xs.length ≤ cap ∧ cap ≤ maxLen ∧
      (∀ (j : Nat) (v : Value), cur[j]? = some v → v.oneCell' = true) ∧
      ∀ (i j : Nat) (x : ty c) (v : Value), xs[i]? = some x → j < szOf c → cur[i * szOf c + j]? = some v → Rep w im noIds v (nth (enc c x) j))
def SRep (w : World) (im : Nat → Prop) (ρ : Ids) (gs : List (Nat × Nat × Bool)) (sl : List AV) (tmps : Array Value) (i : Nat) (v : Value) : Prop :=
  match gget gs i with
  | none => Rep w im ρ v (nth sl i)
  | some (tc, wt) => (tmps[tc]? = some (.bool wt) → Rep w im ρ v (nth sl i)) ∧ (tmps[tc]? ≠ some (.bool wt) → v = undef)
structure Bor where
  mem : Nat → Prop
  pin : Ids
  dfs : List Deferred := []
def noBor : Bor := ⟨fun _ => False, noIds, []⟩
structure St (w0 : World) (bor : Bor) (im0 im : Nat → Prop) (ρ : Ids) (sl : List AV) (gs : List (Nat × Nat × Bool)) (L : Nat → Option Blk) (a : Act) (w : World) : Prop where
  defers : a.defers = bor.dfs
  len : a.tmps.size = sl.length
  slot : ∀ (i : Nat) (v : Value), a.tmps[i]? = some v → SRep w im ρ gs sl a.tmps i v
  dom : ∀ i, L i = none → ρ i = none
  blk : ∀ i b, L i = some b → ∃ ob, ρ i = some ob ∧ BRep w im ρ ob b
  inj : ∀ i j b m m', ρ i = some (some b, m) → ρ j = some (some b, m') → i = j
  notim : ∀ i b m, ρ i = some (some b, m) → ¬ im b
  imlt : ∀ b, im b → b < w.heap.size
  imold : ∀ b, im0 b → im b
  imnew : ∀ b, im b → im0 b ∨ w0.heap.size ≤ b ∨ bor.mem b
  own : ∀ i b m, ρ i = some (some b, m) → w0.heap.size ≤ b ∨ bor.mem b
  pin : ∀ i x, i < 900 → ρ i = some x → bor.pin i = some x
  shp : ∀ b, bor.mem b → w.shape? b = w0.shape? b
  blt : ∀ b, bor.mem b → b < w0.heap.size
  os : w.os = w0.os
  tape : w.tape = w0.tape
  output : w.output = w0.output
  size : w0.heap.size ≤ w.heap.size
  frame : ∀ b, b < w0.heap.size → ¬ bor.mem b → w.heap[b]? = w0.heap[b]?
def Kc (w : World) (im : Nat → Prop) : Prop := True
theorem Kc.mono {w w' : World} {im im' : Nat → Prop} (h1 : ∀ b, im b → im' b) (h2 : ∀ b, im b → w'.heap[b]? = w.heap[b]?) (h : Kc w im) : Kc w' im' := trivial
def GdOK (a : Act) (g : Gd) : Prop := ∀ tc wt, g = some (tc, wt) → a.tmps[tc]? = some (.bool wt)
theorem ofCell_rep (w : World) (im : Nat → Prop) (ρ : Ids) (v : Value) : Rep w im ρ v (ofCell v) := by
  unfold ofCell
  split
  · rename_i k n
    cases h : (decide (k.min ≤ n) && decide (n ≤ k.max)) with
    | true => simp at h; exact .int h
    | false => exact .dead
  · exact .bool
  · rename_i s
    cases h : Nat.ble s.size maxLen with
    | true => exact .str (Nat.le_of_ble_eq_true h)
    | false => exact .dead
  · exact .nilptr
  · exact .nilsl
  · exact .nilfn
  · exact .dead
theorem nth_mapF {α : Type} (f : α → AV) (l : List α) (j : Nat) (x : α) (h : l[j]? = some x) : nth (l.map f) j = f x := by
  rw [nth_eq, List.getElem?_map, h]; rfl
theorem ofVal_rep (w : World) (im : Nat → Prop) (ρ : Ids) (v : Value) : Rep w im ρ v (ofVal v) := by
  unfold ofVal
  split
  · rename_i cs
    cases h : cs.toList.all Value.oneCell' with
    | false => exact .dead
    | true =>
      simp only [List.all_eq_true] at h
      refine .agg (by simp) (fun j v hv => h v ?_) (fun j v hv => ?_)
      · rw [← Array.getElem?_toList] at hv
        exact List.mem_of_getElem? hv
      · rw [← Array.getElem?_toList] at hv
        rw [nth_mapF _ _ _ _ hv]
        exact ofCell_rep ..
  · exact ofCell_rep ..
theorem getD_cases {σ : AS} {a : Act} (hlen : a.tmps.size = σ.slots.length) (t : Nat) : (∃ v, a.tmps[t]? = some v ∧ a.tmps.getD t undef = v) ∨ (σ.slots.length ≤ t) := by
  rcases Nat.lt_or_ge t a.tmps.size with h | h
  · exact .inl ⟨a.tmps[t], by simp [h], by simp [Array.getD, h]⟩
  · exact .inr (by omega)
section ev
variable {w : World} {im : Nat → Prop} {ρ : Ids} {σ : AS} {a : Act} {g : Gd}
variable (hlen : a.tmps.size = σ.slots.length) (hs : ∀ (i : Nat) (v : Value), a.tmps[i]? = some v → SRep w im ρ σ.gs σ.slots a.tmps i v)
include hlen hs
theorem slot_rep (hg : GdOK a g) (t : Nat) : Rep w im ρ (a.tmps.getD t undef) (σ.slot g t) := by
  rcases getD_cases hlen t with ⟨v, hv, he⟩ | hge
  · rw [he]
    have h := hs t v hv
    unfold SRep at h
    unfold AS.slot
    split
    · rename_i h0; rw [h0] at h; exact h
    · rename_i tc wt h0
      rw [h0] at h
      cases g with
      | none => exact .dead
      | some g =>
        obtain ⟨tc', w'⟩ := g
        dsimp only
        split
        · rename_i hb
          simp only [Bool.and_eq_true] at hb
          have h1 := nbeq hb.1
          have h2 := beqB_eq.1 hb.2
          subst h1; subst h2
          exact h.1 (hg _ _ rfl)
        · exact .dead
  · have hd : σ.slot g t = .dead := by
      unfold AS.slot
      have := nth_ge σ.slots t hge
      split
      · exact this
      · split
        · rfl
        · split
          · exact this
          · rfl
    rw [hd]; exact .dead
theorem ev_rep (hg : GdOK a g) (x : Operand) : Rep w im ρ (a.eval x) (σ.ev g x) := by
  cases x with
  | tmp t => exact slot_rep hlen hs hg t
  | const v => exact ofVal_rep ..
  | global n => exact .dead
  | func f => exact .fn (by simp) (by simp) (by simp) (by simp)
theorem pick_rep (hg : GdOK a g) {c x : Operand} {wt : Bool} (hc : a.eval c = .bool wt) : Rep w im ρ (a.eval x) (σ.pickSlot g c wt x) := by
  unfold AS.pickSlot
  split
  · rename_i t tc
    split
    · rename_i tc' w' h0
      split
      · rename_i hb
        simp only [Bool.and_eq_true] at hb
        have h1 := nbeq hb.1
        have h2 := beqB_eq.1 hb.2
        subst h1; subst h2
        rcases getD_cases hlen t with ⟨v, hv, he⟩ | hge
        · have h := hs t v hv
          unfold SRep at h
          rw [h0] at h
          show Rep w im ρ (a.tmps.getD t undef) _
          rw [he]
          refine h.1 ?_
          rcases getD_cases hlen tc with ⟨u, hu, hue⟩ | hge
          · rw [hu]
            have : a.tmps.getD tc undef = .bool wt := hc
            rw [hue] at this
            rw [this]
          · exfalso
            have : a.tmps.getD tc undef = .bool wt := hc
            have h3 : a.tmps.size ≤ tc := by omega
            simp [Array.getD, Nat.not_lt.2 h3, undef] at this
        · rw [nth_ge _ _ hge]; exact .dead
      · exact ev_rep hlen hs hg _
    · exact ev_rep hlen hs hg _
  · exact ev_rep hlen hs hg _
end ev
end Go.Eng
