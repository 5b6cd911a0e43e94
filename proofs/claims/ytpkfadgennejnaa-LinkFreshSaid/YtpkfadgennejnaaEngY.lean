import Derived.Test.YtpkfadgennejnaaEngR
namespace Go.Eng
open Go Go.ChangeShapes
set_option linter.unusedVariables false
set_option linter.unusedSimpArgs false
section
variable {H : Type} {enc' : TypeId × Value → H} {P : Program} {w : World} {base : Nat} {held : Bool}

/-- The cells of a value of type e, as they come in, are those of a value of code c. -/
def CellsOk (enc' : TypeId × Value → H) (P : Program) (w : World) (base : Nat) (held : Bool) (c : Nat) (e : TypeId) : Prop :=
  ∀ (n : Nat) (cs : List Value) (y : DataW H × List MemPlace), DataW.trod enc' P w base (fun _ => true) held n e cs = some y →
    ∃ x : ty c, cs.length = szOf c ∧ ∀ (j : Nat) (v : Value), cs[j]? = some v → v.oneCell' = true ∧ Rep w (· < w.heap.size) noIds v (nth (enc c x) j)

theorem cell_ltS {w : World} {a : Addr} {v : Value} (h : w.cell? a = some v) : a.block < w.heap.size ∧ a.spot = none := by
  unfold World.cell? at h
  split at h
  · rename_i c t f hb
    split at h
    · cases h
    · rename_i hs
      refine ⟨(Array.getElem?_eq_some_iff.1 hb).1, ?_⟩
      cases hsp : a.spot with
      | none => rfl
      | some x => simp [hsp] at hs
  · cases h

theorem szpos : ∀ c : Nat, c < 12 → 0 < szOf c := by decide

/-- A slice's length, as its reading tells it. -/
def DSz (d : DataW H) (n : Nat) : Prop := n = 0 ∨ ∃ el sp, d = .slice el sp ∧ el.length = n

theorem rep_slice {c : Nat} (hc : c < 12) {t e : TypeId} {fuel : Nat} {cs : List Value} {x : DataW H × List MemPlace} (ht : P.underlying t = some (.slice e)) (hsz : P.cellsOf e = szOf c) (hel : CellsOk enc' P w base held c e)
    (h : DataW.trod enc' P w base (fun _ => true) held fuel t cs = some x) : ∃ (v : Value) (xs : List (ty c)), cs = [v] ∧ v.oneCell' = true ∧ Rep w (· < w.heap.size) noIds v (.sl c xs) ∧ DSz x.1 xs.length := by
  rcases Go.Deep.open_slice ht h with ⟨rfl, rfl⟩ | ⟨a, len, cap, m, n, D, Pl, rfl, hb, hl, hm, hmm, rfl, hV⟩
  · exact ⟨_, [], rfl, rfl, .sl0, .inl rfl⟩
  · have hmm : m = cap := by simpa using hmm
    subst hmm
    rcases Nat.eq_zero_or_pos m with h0 | h0
    · subst h0
      obtain rfl : len = 0 := by omega
      exact ⟨_, [], rfl, rfl, .emp, .inl rfl⟩
    · have pos := szpos c hc
      rw [hsz] at hV
      have hx : ∀ i, ∃ x : ty c, i < m → ∀ j, j < szOf c → ∃ v, w.cell? ((a.add (i * szOf c)).add j) = some v ∧ v.oneCell' = true ∧ Rep w (· < w.heap.size) noIds v (nth (enc c x) j) := by
        intro i
        by_cases hi : i < m
        · obtain ⟨cs', h1, h2⟩ := hV i hi
          obtain ⟨x, hxl, hx⟩ := hel _ _ _ h2
          obtain ⟨-, h4, h5⟩ := World.cells?_some h1
          refine ⟨x, fun _ j hj => ?_⟩
          have hj' : j < cs'.length := by omega
          obtain ⟨o, r⟩ := hx j _ (List.getElem?_eq_getElem hj')
          exact ⟨cs'[j], by rw [h5 j hj, List.getElem?_eq_getElem hj'], o, r⟩
        · exact ⟨dflt c, fun h => absurd h hi⟩
      let X : Nat → ty c := fun i => Classical.choose (hx i)
      have hX : ∀ i, i < m → ∀ j, j < szOf c → ∃ v, w.cell? ((a.add (i * szOf c)).add j) = some v ∧ v.oneCell' = true ∧ Rep w (· < w.heap.size) noIds v (nth (enc c (X i)) j) := fun i => Classical.choose_spec (hx i)
      have hv : ∀ i j, ∃ v : Value, i < m → j < szOf c → w.cell? ((a.add (i * szOf c)).add j) = some v ∧ v.oneCell' = true ∧ Rep w (· < w.heap.size) noIds v (nth (enc c (X i)) j) := by
        intro i j
        by_cases hi : i < m
        · by_cases hj : j < szOf c
          · obtain ⟨v, hv⟩ := hX i hi j hj
            exact ⟨v, fun _ _ => hv⟩
          · exact ⟨.nilFunc, fun _ h => absurd h hj⟩
        · exact ⟨.nilFunc, fun h => absurd h hi⟩
      let V : Nat → Nat → Value := fun i j => Classical.choose (hv i j)
      have hVV : ∀ i j, i < m → j < szOf c → w.cell? ((a.add (i * szOf c)).add j) = some (V i j) ∧ (V i j).oneCell' = true ∧ Rep w (· < w.heap.size) noIds (V i j) (nth (enc c (X i)) j) := fun i j => Classical.choose_spec (hv i j)
      have hlt := cell_ltS (hVV 0 0 h0 pos).1
      obtain ⟨b, off, spot⟩ := a
      have hab : (Addr.add (Addr.add ⟨b, off, spot⟩ (0 * szOf c)) 0) = ⟨b, off, spot⟩ := by simp [Addr.add]
      rw [hab] at hlt
      dsimp only at hlt
      obtain ⟨hlt, hsp⟩ := hlt
      subst hsp
      refine ⟨_, (List.range len).map X, rfl, rfl, .sl hlt (by simp) hl hm V (fun i j hi hj => ?_) (fun i j hi hj => ?_) (fun i j x hx hj => ?_), .inr ⟨_, _, rfl, by simp⟩⟩
      · simp only [List.length_map, List.length_range] at hi
        have := (hVV i j (by omega) hj).1
        rw [add_addr, add_addr] at this
        exact this
      · simp only [List.length_map, List.length_range] at hi
        exact (hVV i j (by omega) hj).2.1
      · have hi : i < len := by
          rcases Nat.lt_or_ge i len with h | h
          · exact h
          · rw [List.getElem?_eq_none (by simpa using h)] at hx; cases hx
        rw [List.getElem?_map, List.getElem?_range hi] at hx
        simp only [Option.map_some, Option.some.injEq] at hx
        subst hx
        exact (hVV i j (by omega) hj).2.2

theorem cells_u8 {e : TypeId} (he : P.underlying e = some (.int .u8)) : CellsOk enc' P w base held 0 e := fun n cs y h => by
  obtain ⟨a, rfl, -, hw⟩ := DataW.trod_int he h
  have hk : kwf .u8 a := by simpa [Lit.wf, kwf] using hw
  refine ⟨UInt8.ofNat a.toNat, rfl, fun j v hv => ?_⟩
  match j, hv with
  | 0, hv => 
    cases hv
    refine ⟨rfl, ?_⟩
    show Rep w _ noIds (.int .u8 a) (.int .u8 ((UInt8.ofNat a.toNat).toNat : Int))
    rw [kwf_u8 hk]; exact .int hk
theorem cells_i64 {e : TypeId} (he : P.underlying e = some (.int .i64)) : CellsOk enc' P w base held 1 e := fun n cs y h => by
  obtain ⟨a, rfl, -, hw⟩ := DataW.trod_int he h
  have hk : kwf .i64 a := by simpa [Lit.wf, kwf] using hw
  refine ⟨a, rfl, fun j v hv => ?_⟩
  match j, hv with
  | 0, hv => 
    cases hv
    exact ⟨rfl, .int hk⟩
theorem cells_u32 {e : TypeId} (he : P.underlying e = some (.int .u32)) : CellsOk enc' P w base held 2 e := fun n cs y h => by
  obtain ⟨a, rfl, -, hw⟩ := DataW.trod_int he h
  have hk : kwf .u32 a := by simpa [Lit.wf, kwf] using hw
  refine ⟨UInt32.ofNat a.toNat, rfl, fun j v hv => ?_⟩
  match j, hv with
  | 0, hv => 
    cases hv
    refine ⟨rfl, ?_⟩
    show Rep w _ noIds (.int .u32 a) (.int .u32 ((UInt32.ofNat a.toNat).toNat : Int))
    rw [kwf_u32 hk]; exact .int hk
theorem cells_bool {e : TypeId} (he : P.underlying e = some .bool) : CellsOk enc' P w base held 4 e := fun n cs y h => by
  obtain ⟨a, rfl, -⟩ := DataW.trod_bool he h
  refine ⟨a, rfl, fun j v hv => ?_⟩
  match j, hv with
  | 0, hv => 
    cases hv
    exact ⟨rfl, .bool⟩
theorem cells_sl {c c' : Nat} (hc : c < 12) (hty : ty c' = List (ty c)) (hs : szOf c' = 1) (henc : ∀ x : ty c', ∃ xs : List (ty c), HEq x xs ∧ enc c' x = [.sl c xs]) {t e : TypeId} (ht : P.underlying t = some (.slice e)) (hsz : P.cellsOf e = szOf c) (hel : CellsOk enc' P w base held c e) : CellsOk enc' P w base held c' t := fun n cs y h => by
  obtain ⟨v, xs, rfl, ho, hr, -⟩ := rep_slice hc ht hsz hel h
  obtain ⟨xs', he, hen⟩ := henc (cast hty.symm xs)
  have : xs' = xs := eq_of_heq (he.symm.trans (cast_heq _ _))
  subst this
  refine ⟨cast hty.symm xs', by rw [hs]; rfl, fun j u hv => ?_⟩
  match j, hv with
  | 0, hv => 
    cases hv
    rw [hen]
    exact ⟨ho, hr⟩
theorem cells_bytes {t e : TypeId} (ht : P.underlying t = some (.slice e)) (he : P.underlying e = some (.int .u8)) (hsz : P.cellsOf e = 1) : CellsOk enc' P w base held 6 t :=
  cells_sl (c := 0) (by decide) rfl rfl (fun x => ⟨x, .rfl, rfl⟩) ht hsz (cells_u8 he)
theorem cells_ints {t e : TypeId} (ht : P.underlying t = some (.slice e)) (he : P.underlying e = some (.int .i64)) (hsz : P.cellsOf e = 1) : CellsOk enc' P w base held 7 t :=
  cells_sl (c := 1) (by decide) rfl rfl (fun x => ⟨x, .rfl, rfl⟩) ht hsz (cells_i64 he)
theorem cells_msgs {t e : TypeId} (ht : P.underlying t = some (.slice e)) (hsz : P.cellsOf e = 3) (hel : CellsOk enc' P w base held 8 e) : CellsOk enc' P w base held 11 t :=
  cells_sl (c := 8) (by decide) rfl rfl (fun x => ⟨x, .rfl, rfl⟩) ht hsz hel
theorem cells_msg {t t1 t2 t3 t4 : TypeId} {fs : Array Field} (ht : P.underlying t = some (.struct fs)) (hsz : P.cellsOf t = 3) (hfs : (fs.toList.map fun f => (f.offset, f.type)) = [(0, t1), (1, t2), (2, t3)]) (h1 : P.underlying t1 = some (.int .u8)) (h2 : P.underlying t2 = some (.int .u32)) (h3 : P.underlying t3 = some (.slice t4)) (h4 : P.underlying t4 = some (.int .u8))
    (z1 : P.cellsOf t1 = 1) (z2 : P.cellsOf t2 = 1) (z3 : P.cellsOf t3 = 1) (z4 : P.cellsOf t4 = 1) : CellsOk enc' P w base held 8 t := fun n cs y h => by
  obtain ⟨xs, m, -, -, hl, hlen, hf⟩ := DataW.trod_struct ht h
  rw [hsz] at hl
  match cs, hl with
  | [c0, c1, c2], _ =>
    have fsz : fs.size = 3 := by have := congrArg List.length hfs; simpa using this
    have hget : ∀ i (p : Nat × TypeId), [(0, t1), (1, t2), (2, t3)][i]? = some p → ∃ f : Field, fs[i]? = some f ∧ f.offset = p.1 ∧ f.type = p.2 := fun i p hp => by
      rw [← hfs, List.getElem?_map] at hp
      obtain ⟨f, hf, rfl⟩ := Option.map_eq_some_iff.1 hp
      exact ⟨f, by simpa using hf, rfl, rfl⟩
    have field : ∀ i (p : Nat × TypeId), [(0, t1), (1, t2), (2, t3)][i]? = some p → ∃ y', DataW.trod enc' P w base (fun _ => true) held m p.2 (([c0, c1, c2].drop p.1).take (P.cellsOf p.2)) = some y' := fun i p hp => by
      obtain ⟨f, hf1, hf2, hf3⟩ := hget i p hp
      have := hf i f hf1
      rw [hf2, hf3] at this
      have hi : i < xs.length := by
        have : i < fs.size := by
          rcases Nat.lt_or_ge i fs.size with h | h
          · exact h
          · rw [Array.getElem?_eq_none h] at hf1; cases hf1
        omega
      exact ⟨xs[i], by rw [this, List.getElem?_eq_getElem hi]⟩
    obtain ⟨y0, h0⟩ := field 0 (0, t1) rfl
    obtain ⟨y1, hh1⟩ := field 1 (1, t2) rfl
    obtain ⟨y2, hh2⟩ := field 2 (2, t3) rfl
    dsimp only at h0 hh1 hh2
    rw [z1] at h0
    rw [z2] at hh1
    rw [z3] at hh2
    obtain ⟨a0, e0, -, w0⟩ := DataW.trod_int h1 h0
    obtain ⟨a1, e1, -, w1⟩ := DataW.trod_int h2 hh1
    obtain ⟨v, bs, e2, ho, hr, -⟩ := rep_slice (c := 0) (by decide) h3 z4 (cells_u8 h4) hh2
    simp at e0 e1 e2
    subst e0; subst e1; subst e2
    have k0 : kwf .u8 a0 := by simpa [Lit.wf, kwf] using w0
    have k1 : kwf .u32 a1 := by simpa [Lit.wf, kwf] using w1
    refine ⟨⟨UInt8.ofNat a0.toNat, UInt32.ofNat a1.toNat, bs⟩, rfl, fun j u hv => ?_⟩
    match j, hv with
    | 0, hv =>
      cases hv
      refine ⟨rfl, ?_⟩
      show Rep w _ noIds (.int .u8 a0) (.int .u8 ((UInt8.ofNat a0.toNat).toNat : Int))
      rw [kwf_u8 k0]; exact .int k0
    | 1, hv =>
      cases hv
      refine ⟨rfl, ?_⟩
      show Rep w _ noIds (.int .u32 a1) (.int .u32 ((UInt32.ofNat a1.toNat).toNat : Int))
      rw [kwf_u32 k1]; exact .int k1
    | 2, hv =>
      cases hv
      exact ⟨ho, hr⟩
    | j + 3, hv => simp at hv
end
end Go.Eng
namespace Go.Eng
open Go Go.ChangeShapes
set_option linter.unusedVariables false
/-- A slice that came in, with its length. -/
theorem rep_in {H : Type} {enc' : TypeId × Value → H} {P : Program} {w : World} {base base' : Nat} {held : Bool} {r : Reach} {c : Nat} (hc : c < 12) {t e : TypeId} {fuel : Nat} {v : Value} {x : DataW H × List MemPlace} (ht : P.underlying t = some (.slice e)) (hsz : P.cellsOf e = szOf c) (hel : CellsOk enc' P w base' held c e)
    (hok : Value.okWide P w r base t v) (h : DataW.trod enc' P w base' (fun _ => true) held fuel t v.cells.toList = some x) : ∃ xs : List (ty c), Rep w (· < w.heap.size) noIds v (.sl c xs) ∧ DSz x.1 xs.length := by
  obtain ⟨a, len, cap, rfl⟩ := Go.WideShapes.okWide_slice ht hok
  obtain ⟨v, xs, e, -, hr, hd⟩ := rep_slice hc ht hsz hel h
  simp [Value.cells] at e
  subst e
  exact ⟨xs, hr, hd⟩
end Go.Eng
