import Derived.Test.YtcdflgfhkohldaaEngE
import Derived.Laws.Strings
namespace Go.Eng
open Go
set_option linter.unusedVariables false
set_option linter.unusedSimpArgs false
theorem map_len {α β : Type} (f : α → β) (l : Array α) : (l.toList.map f).length = l.size := by simp
theorem args_rep {w : World} {im : Nat → Prop} {ρ : Ids} (f1 : Operand → Value) (f2 : Operand → AV) (hf : ∀ x, Rep w im ρ (f1 x) (f2 x)) (l : List Operand) :
    ∀ (j : Nat) (v : Value), (l.map f1)[j]? = some v → Rep w im ρ v (nth (l.map f2) j) := by
  intro j v hj
  rw [List.getElem?_map] at hj
  cases hx : l[j]? with
  | none => rw [hx] at hj; simp at hj
  | some x =>
    rw [hx] at hj
    simp at hj
    subst hj
    rw [nth_mapF _ _ _ _ hx]
    exact hf x
theorem index_sound {P : Program} {w : World} {im : Nat → Prop} {ρ : Ids} {t : TypeId} {x ix : AV} {u ui : Value} {pre : List DP} {v : AV}
    (hx : Rep w im ρ u x) (hi : Rep w im ρ ui ix) (h : indexAV P t x ix = .ok pre v) (hp : AllD pre) :
    ∃ val, Run P w (Instr.index t u ui) val ∧ Rep w im ρ val v := by
  unfold indexAV at h
  split at h
  · rename_i k n s ht
    obtain ⟨rfl, -⟩ := hi.inv_int
    simp only [PR.ok.injEq] at h; obtain ⟨rfl, rfl⟩ := h
    obtain ⟨h0, h1, -⟩ := hp
    have h0 : 0 ≤ n := h0
    have h1 : n < (s.size : Int) := h1
    obtain rfl : u = .string s := by cases hx; rfl
    have hl : n.toNat < s.data.toList.length := by
      rw [Array.length_toList]
      show n.toNat < s.size
      omega
    have hb : strAt s n = ((s.data.toList[n.toNat]'hl).toNat : Int) := by
      unfold strAt
      rw [List.getD_eq_getElem?_getD, List.getElem?_eq_getElem hl]; rfl
    refine ⟨.int .u8 (strAt s n), fun w hw => ?_, .int ?_⟩
    · rw [run_index_string w t s k n ht, dif_pos ⟨h0, h1⟩, hb, Array.getElem_toList]
      rfl
    · have := UInt8.toNat_lt (s.data.toList[n.toNat]'hl)
      rw [hb]
      exact ⟨by show (0 : Int) ≤ _; omega, by show _ ≤ (255 : Int); omega⟩
  · cases h
set_option maxHeartbeats 1000000 in
theorem pop_sound {P : Program} {w : World} {im : Nat → Prop} {ρ : Ids} {σ : AS} {a : Act} {g : Gd} {o : Oper} {pre : List DP} {v : AV}
    (hlen : a.tmps.size = σ.slots.length) (hs : ∀ (i : Nat) (v : Value), a.tmps[i]? = some v → SRep w im ρ σ.gs σ.slots a.tmps i v)
    (hb : ∀ i b, lget σ.locs i = some b → ∃ ob, ρ i = some ob ∧ BRep w im ρ ob b) (hg : GdOK a g)
    (h : pop P σ g o = .ok pre v) (hp : AllD pre) : ∃ val, Run P w (execOp a.eval o) (.value val) ∧ Rep w im ρ val v := by
  have ev := ev_rep hlen hs hg
  unfold pop at h
  unfold execOp
  split at h <;> rename_i hop <;> simp only [hop]
  · simp only [PR.ok.injEq] at h; obtain ⟨rfl, rfl⟩ := h
    exact ⟨_, fun w hw => rfl, ev _⟩
  · simp only [PR.ok.injEq] at h; obtain ⟨rfl, rfl⟩ := h
    exact ⟨_, fun w hw => rfl, ev _⟩
  · rename_i c x y
    obtain ⟨b, hb', hr⟩ := pick_sound (ev c) (fun e => pick_rep hlen hs hg e) (fun e => pick_rep hlen hs hg e) h hp
    exact ⟨_, fun w hw => by simp [hb', asBool], hr⟩
  · rename_i t parts
    unfold PR.bind1 at h
    split at h
    · rename_i v' hv
      simp only [PR.ok.injEq] at h; obtain ⟨rfl, rfl⟩ := h
      obtain ⟨val, h1, h2⟩ := build_sound a.eval (σ.ev g) ev hv
      exact ⟨val, fun w hw => by simp [h1 w hw], h2⟩
    · cases h
  · rename_i t x
    obtain ⟨val, h1, h2⟩ := load_sound hb (ev x) h hp
    exact ⟨val, fun w hw => by simp [h1 w hw], h2⟩
  · rename_i x
    have hx := ev x
    generalize a.eval x = u at hx ⊢
    split at h <;> (try (cases h; done)) <;> rename_i hx' <;> rw [hx'] at hx <;> simp only [PR.ok.injEq] at h <;> obtain ⟨rfl, rfl⟩ := h
    · obtain ⟨b, m, h1, rfl⟩ := hx.inv_ptr
      exact ⟨_, fun w hw => rfl, .ptr h1⟩
    · have hx2 := hx
      obtain ⟨b, m, h1, rfl⟩ := hx.inv_eptr
      exact ⟨_, fun w hw => rfl, hx2⟩
    · have hx2 := hx
      obtain ⟨b, rfl⟩ : ∃ b, u = .pointer (some b) := by cases hx <;> exact ⟨_, rfl⟩
      exact ⟨_, fun w hw => rfl, hx2⟩
  · rename_i op t x y yt
    obtain ⟨val, h1, h2⟩ := bin_sound (ox := x) (oy := y) (ev x) (ev y) h hp
    exact ⟨val, fun w hw => by have h1 := h1 w hw; simp only [Sem.run_bind, Result.andThen_ok, Sem.run_pure] at h1 ⊢; rw [h1]; rfl, h2⟩
  · rename_i op t x
    obtain ⟨val, h1, h2⟩ := un_sound (P := P) (ev x) h
    exact ⟨val, fun w hw => by simp [h1 w hw], h2⟩
  · rename_i s d x
    obtain ⟨val, h1, h2⟩ := conv_sound hb (ev x) h
    exact ⟨val, fun w hw => by simp [h1 w hw], h2⟩
  · rename_i t x hi mx
    have hx := ev x
    split at h
    · rename_i e c i o n kh hh km m ht hx' hh' hm'
      split at h
      · rename_i hsz
        obtain ⟨i', hi', hsz', -⟩ := sizeOk_info hsz
        rw [hx'] at hx
        have r1 := ev hi; rw [hh'] at r1
        have r2 := ev mx; rw [hm'] at r2
        simp only [PR.ok.injEq] at h; obtain ⟨rfl, rfl⟩ := h
        obtain ⟨p1, p2, p3, -⟩ := hp
        obtain ⟨val, h1, h2⟩ := slice3_sound ht hi' hx hsz' r1 r2 p1 p2 p3
        exact ⟨val, fun w hw => by simp [h1 w hw], h2⟩
      · cases h
    · cases h
  · rename_i t x lo hi
    have hopt : ∀ (z : Option Operand), z.map (σ.ev g) = none ∧ z.map a.eval = none ∨ ∃ p q, z.map (σ.ev g) = some p ∧ z.map a.eval = some q ∧ Rep w im ρ q p := by
      intro z; cases z with
      | none => exact .inl ⟨rfl, rfl⟩
      | some z => exact .inr ⟨_, _, rfl, rfl, ev z⟩
    have hx := ev x
    split at h
    · rename_i e c xs ht hx'
      split at h
      · rename_i hsz
        obtain ⟨i, hi', hsz', -⟩ := sizeOk_info hsz
        rw [hx'] at hx
        obtain ⟨val, h1, h2⟩ := slice_sound ht hi' (fun c' xs' e => by cases e; exact hsz') (fun c' j o n e => by cases e) hx (hopt lo) (hopt hi) h hp
        exact ⟨val, fun w hw => by simp [h1 w hw], h2⟩
      · cases h
    · rename_i e c j o n ht hx'
      split at h
      · rename_i hsz
        obtain ⟨i, hi', hsz', -⟩ := sizeOk_info hsz
        rw [hx'] at hx
        obtain ⟨val, h1, h2⟩ := slice_sound ht hi' (fun c' xs' e => by cases e) (fun c' j o n e => by cases e; exact hsz') hx (hopt lo) (hopt hi) h hp
        exact ⟨val, fun w hw => by simp [h1 w hw], h2⟩
      · cases h
    · rename_i e ht hx'
      split at h
      · rename_i i hi'
        rw [hx'] at hx
        obtain ⟨val, h1, h2⟩ := slice_sound ht hi' (fun c' xs' e => by cases e) (fun c' j o n e => by cases e) hx (hopt lo) (hopt hi) h hp
        exact ⟨val, fun w hw => by simp [h1 w hw], h2⟩
      · cases h
    · cases h
  · rename_i t x f
    have hx := ev x
    generalize a.eval x = u at hx ⊢
    split at h <;> (try (cases h; done)) <;> rename_i hf hx' <;> rw [hx'] at hx <;> split at h <;> (try (cases h; done)) <;> rename_i hsz <;> simp only [PR.ok.injEq] at h <;> obtain ⟨rfl, rfl⟩ := h
    · obtain ⟨b, m, h1, rfl⟩ := hx.inv_ptr
      exact ⟨_, fun w hw => by simp only [Sem.run_bind, field_addr hf hsz]; rfl, .ptr h1⟩
    · obtain ⟨b, m, h1, rfl⟩ := hx.inv_eptr
      exact ⟨_, fun w hw => by simp only [Sem.run_bind, field_addr hf hsz]; rfl, .eptr h1 (by rw [Nat.add_assoc])⟩
    · cases hx with
      | iref hbim ho vals hcell hone hrep =>
        subst ho
        exact ⟨_, fun w hw => by simp only [Sem.run_bind, field_addr hf hsz]; rfl, .iref hbim (by rw [Nat.add_assoc]) vals hcell hone hrep⟩
  · rename_i t x f
    have hx := ev x
    split at h
    · rename_i off ft cs hf hx'
      rw [hx'] at hx
      unfold PR.bind1 at h
      split at h
      · rename_i v' hv
        simp only [PR.ok.injEq] at h; obtain ⟨rfl, rfl⟩ := h
        obtain ⟨vs, h1, h2, h3, h4⟩ := hx.inv_agg
        obtain ⟨val, h5, h6⟩ := part_agg (P := P) (w := w) h2 h3 h4 hv
        obtain ⟨fs, fd, g1, g2, g3, g4⟩ := fieldOf_info hf
        subst g3; subst g4
        exact ⟨val, fun w hw => by simp [Instr.field, underlying, g1, g2, h1, asAgg, h5 w hw], h6⟩
      · cases h
    · cases h
  · rename_i t x ix
    obtain ⟨val, h1, h2⟩ := indexAddr_sound (ev x) (ev ix) h hp
    exact ⟨val, fun w hw => by simp [h1 w hw], h2⟩
  · rename_i t x ix
    obtain ⟨val, h1, h2⟩ := index_sound (ev x) (ev ix) h hp
    exact ⟨val, fun w hw => by simp [h1 w hw], h2⟩
  · rename_i t i
    have hx := ev t
    split at h
    · rename_i vs hx'
      rw [hx'] at hx
      unfold PR.bind1 at h
      split at h
      · rename_i v' hv
        simp only [PR.ok.injEq] at h; obtain ⟨rfl, rfl⟩ := h
        unfold nthV at hv
        split at hv
        · rename_i hlt
          simp only [Option.some.injEq] at hv; subst hv
          have hlt : i < vs.length := by simpa [Nat.blt, Nat.succ_le_iff] using hlt
          obtain ⟨us, h1, h2, h3⟩ := hx.inv_tup
          obtain ⟨u, hu⟩ : ∃ u, us[i]? = some u := ⟨_, arr_get (by omega)⟩
          exact ⟨u, fun w hw => by simp [h1, Instr.extract, hu], h3 _ _ hu⟩
        · cases hv
      · cases h
    · cases h
  · rename_i fn first captured
    simp only [PR.ok.injEq] at h; obtain ⟨rfl, rfl⟩ := h
    refine ⟨_, fun w hw => rfl, .fn (by simp) (by simp) (fun j v hj => ?_) (fun j v hj => ?_)⟩
    · exact args_rep a.eval (σ.ev g) ev first.toList j v (by simpa using hj)
    · exact args_rep a.eval (σ.ev g) ev captured.toList j v (by simpa using hj)
  · rename_i c
    have hargs := args_rep a.eval (σ.ev g) ev c.args.toList
    split at h
    · rename_i x hc hx
      split at h
      · rename_i d hd
        obtain ⟨y, hy⟩ : ∃ y, c.args.toList = [y] := by
          cases hl : c.args.toList with
          | nil => simp [hl] at hx
          | cons y r => cases r with
            | nil => exact ⟨y, rfl⟩
            | cons => simp [hl] at hx
        simp [hy] at hx
        have hx2 := ev y
        rw [hx] at hx2
        have hay : c.args = #[y] := by rw [← Array.toArray_toList (xs := c.args), hy]
        obtain ⟨t, ts, hts, htd⟩ : ∃ t ts, c.argTypes = (t :: ts).toArray ∧ P.underlying t = some d := by
          cases hl : c.argTypes.toList with
          | nil =>
            have : c.argTypes = #[] := by rw [← Array.toArray_toList (xs := c.argTypes), hl]
            simp [this] at hd
          | cons t ts =>
            have : c.argTypes = (t :: ts).toArray := by rw [← Array.toArray_toList (xs := c.argTypes), hl]
            refine ⟨t, ts, this, ?_⟩
            rw [this] at hd
            simpa using hd
        obtain ⟨val, h1, h2⟩ := len_sound htd hx2 h ts o.type
        refine ⟨val, fun w hw => ?_, h2⟩
        have h1 := h1 w hw
        simp only [resolve, hc, hay, hts, Sem.run_bind, Sem.run_pure, Result.andThen_ok, invoke, builtin, List.map_toArray, List.map_cons, List.map_nil, h1]
      · cases h
    · rename_i x r hc hx
      unfold PR.bind1 at h
      split at h
      · rename_i v' hv
        simp only [PR.ok.injEq] at h; obtain ⟨rfl, rfl⟩ := h
        obtain ⟨y, ys, hy⟩ : ∃ y ys, c.args.toList = y :: ys := by
          cases hl : c.args.toList with
          | nil => simp [hl] at hx
          | cons y r => exact ⟨y, r, rfl⟩
        simp only [hy, List.map_cons, List.cons.injEq] at hx
        obtain ⟨rfl, rfl⟩ := hx
        obtain ⟨val, h1, h2⟩ := min_sound (P := P) true (ys.map (σ.ev g)) (ys.map a.eval) _ (a.eval y) v' (ev y) (by simp) (args_rep a.eval (σ.ev g) ev ys) hv
        refine ⟨val, fun w hw => ?_, h2⟩
        have h1 := h1 w hw
        have hay : c.args = (y :: ys).toArray := by rw [← Array.toArray_toList (xs := c.args), hy]
        simp only [if_true] at h1
        simp only [resolve, hc, hay, Sem.run_bind, Sem.run_pure, Result.andThen_ok, invoke, builtin, List.map_toArray, List.map_cons, Builtin.min_, h1]
      · cases h
    · rename_i x r hc hx
      unfold PR.bind1 at h
      split at h
      · rename_i v' hv
        simp only [PR.ok.injEq] at h; obtain ⟨rfl, rfl⟩ := h
        obtain ⟨y, ys, hy⟩ : ∃ y ys, c.args.toList = y :: ys := by
          cases hl : c.args.toList with
          | nil => simp [hl] at hx
          | cons y r => exact ⟨y, r, rfl⟩
        simp only [hy, List.map_cons, List.cons.injEq] at hx
        obtain ⟨rfl, rfl⟩ := hx
        obtain ⟨val, h1, h2⟩ := min_sound (P := P) false (ys.map (σ.ev g)) (ys.map a.eval) _ (a.eval y) v' (ev y) (by simp) (args_rep a.eval (σ.ev g) ev ys) hv
        refine ⟨val, fun w hw => ?_, h2⟩
        have h1 := h1 w hw
        have hay : c.args = (y :: ys).toArray := by rw [← Array.toArray_toList (xs := c.args), hy]
        simp only [Bool.false_eq_true, if_false] at h1
        simp only [resolve, hc, hay, Sem.run_bind, Sem.run_pure, Result.andThen_ok, invoke, builtin, List.map_toArray, List.map_cons, Builtin.max_, h1]
      · cases h
    · cases h
  · cases h
end Go.Eng
