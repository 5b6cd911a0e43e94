import Derived.Test.YtcdflgfhkohldaaEngR
import Derived.JoinedCond
import Derived.SizedLaws
namespace Go.Eng
open Go Go.ChangeShapes
set_option linter.unusedVariables false
set_option linter.unusedSimpArgs false
section
variable {H : Type} {enc' : TypeId × Value → H} {P : Program} {w : World} {base : Nat} {held : Bool}
def CellsOk (enc' : TypeId × Value → H) (P : Program) (w : World) (base : Nat) (held : Bool) (c : Nat) (Z : DataW H → ty c → Prop) (e : TypeId) : Prop :=
  ∀ (n : Nat) (cs : List Value) (y : DataW H × List MemPlace), DataW.trod enc' P w base (fun _ => true) held n e cs = some y →
    ∃ x : ty c, Z y.1 x ∧ cs.length = szOf c ∧ ∀ (j : Nat) (v : Value), cs[j]? = some v → v.oneCell' = true ∧ Rep w (· < w.heap.size) noIds v (nth (enc c x) j)
theorem cell_ltS {w : World} {a : Addr} {v : Value} (h : w.cell? a = some v) : a.block < w.heap.size ∧ a.spot = none := by
  unfold World.cell? at h
  split at h
  · rename_i c t f hb
    split at h
    · cases h
    · rename_i hs
      refine ⟨(Array.getElem?_eq_some_iff.1 hb).1, ?_⟩
      cases hsp : a.spot with
      | none => rfl
      | some x => simp [hsp] at hs
  · cases h
theorem szpos : ∀ c : Nat, c < 12 → 0 < szOf c := by decide
def ZAll {α : Type} (Z : DataW H → α → Prop) : List (DataW H) → List α → Prop
  | [], [] => True
  | d :: l, x :: r => Z d x ∧ ZAll Z l r
  | _, _ => False
theorem zall_map {α : Type} {Z : DataW H → α → Prop} {D : Nat → DataW H} {X : Nat → α} : ∀ (l : List Nat), (∀ i ∈ l, Z (D i) (X i)) → ZAll Z (l.map D) (l.map X)
  | [], _ => trivial
  | i :: l, h => ⟨h i (List.mem_cons_self ..), zall_map l fun j hj => h j (List.mem_cons_of_mem _ hj)⟩
def DSz {α : Type} (Z : DataW H → α → Prop) (d : DataW H) (xs : List α) : Prop := xs = [] ∨ ∃ el sp, d = .slice el sp ∧ ZAll Z el xs
def Z0 {α : Type} (d : DataW H) (x : α) : Prop := True
theorem rep_slice {c : Nat} {Z : DataW H → ty c → Prop} (hc : c < 12) {t e : TypeId} {fuel : Nat} {cs : List Value} {x : DataW H × List MemPlace} (ht : P.underlying t = some (.slice e)) (hsz : P.cellsOf e = szOf c) (hel : CellsOk enc' P w base held c Z e)
    (h : DataW.trod enc' P w base (fun _ => true) held fuel t cs = some x) : ∃ (v : Value) (xs : List (ty c)), cs = [v] ∧ v.oneCell' = true ∧ Rep w (· < w.heap.size) noIds v (.sl c xs) ∧ DSz Z x.1 xs := by
  rcases Go.Deep.open_slice ht h with ⟨rfl, rfl⟩ | ⟨a, len, cap, m, n, D, Pl, rfl, hb, hl, hm, hmm, rfl, hV⟩
  · exact ⟨_, [], rfl, rfl, .sl0, .inl rfl⟩
  · have hmm : m = cap := by simpa using hmm
    subst hmm
    rcases Nat.eq_zero_or_pos m with h0 | h0
    · subst h0
      obtain rfl : len = 0 := by omega
      exact ⟨_, [], rfl, rfl, .emp, .inl rfl⟩
    · have pos := szpos c hc
      rw [hsz] at hV
      have hx : ∀ i, ∃ x : ty c, i < m → Z (D i) x ∧ ∀ j, j < szOf c → ∃ v, w.cell? ((a.add (i * szOf c)).add j) = some v ∧ v.oneCell' = true ∧ Rep w (· < w.heap.size) noIds v (nth (enc c x) j) := by
        intro i
        by_cases hi : i < m
        · obtain ⟨cs', h1, h2⟩ := hV i hi
          obtain ⟨x, hz, hxl, hx⟩ := hel _ _ _ h2
          obtain ⟨-, h4, h5⟩ := World.cells?_some h1
          refine ⟨x, fun _ => ⟨hz, fun j hj => ?_⟩⟩
          have hj' : j < cs'.length := by omega
          obtain ⟨o, r⟩ := hx j _ (List.getElem?_eq_getElem hj')
          exact ⟨cs'[j], by rw [h5 j hj, List.getElem?_eq_getElem hj'], o, r⟩
        · exact ⟨dflt c, fun h => absurd h hi⟩
      let X : Nat → ty c := fun i => Classical.choose (hx i)
      have hX0 : ∀ i, i < m → Z (D i) (X i) := fun i hi => (Classical.choose_spec (hx i) hi).1
      have hX : ∀ i, i < m → ∀ j, j < szOf c → ∃ v, w.cell? ((a.add (i * szOf c)).add j) = some v ∧ v.oneCell' = true ∧ Rep w (· < w.heap.size) noIds v (nth (enc c (X i)) j) := fun i hi => (Classical.choose_spec (hx i) hi).2
      have hv : ∀ i j, ∃ v : Value, i < m → j < szOf c → w.cell? ((a.add (i * szOf c)).add j) = some v ∧ v.oneCell' = true ∧ Rep w (· < w.heap.size) noIds v (nth (enc c (X i)) j) := by
        intro i j
        by_cases hi : i < m
        · by_cases hj : j < szOf c
          · obtain ⟨v, hv⟩ := hX i hi j hj
            exact ⟨v, fun _ _ => hv⟩
          · exact ⟨.nilFunc, fun _ h => absurd h hj⟩
        · exact ⟨.nilFunc, fun h => absurd h hi⟩
      let V : Nat → Nat → Value := fun i j => Classical.choose (hv i j)
      have hVV : ∀ i j, i < m → j < szOf c → w.cell? ((a.add (i * szOf c)).add j) = some (V i j) ∧ (V i j).oneCell' = true ∧ Rep w (· < w.heap.size) noIds (V i j) (nth (enc c (X i)) j) := fun i j => Classical.choose_spec (hv i j)
      have hlt := cell_ltS (hVV 0 0 h0 pos).1
      obtain ⟨b, off, spot⟩ := a
      have hab : (Addr.add (Addr.add ⟨b, off, spot⟩ (0 * szOf c)) 0) = ⟨b, off, spot⟩ := by simp [Addr.add]
      rw [hab] at hlt
      dsimp only at hlt
      obtain ⟨hlt, hsp⟩ := hlt
      subst hsp
      refine ⟨_, (List.range len).map X, rfl, rfl, .sl hlt (by simp) hl hm V (fun i j hi hj => ?_) (fun i j hi hj => ?_) (fun i j x hx hj => ?_), .inr ⟨_, _, rfl, zall_map _ fun i hi => hX0 i (by have := List.mem_range.1 hi; omega)⟩⟩
      · simp only [List.length_map, List.length_range] at hi
        have := (hVV i j (by omega) hj).1
        rw [add_addr, add_addr] at this
        exact this
      · simp only [List.length_map, List.length_range] at hi
        exact (hVV i j (by omega) hj).2.1
      · have hi : i < len := by
          rcases Nat.lt_or_ge i len with h | h
          · exact h
          · rw [List.getElem?_eq_none (by simpa using h)] at hx; cases hx
        rw [List.getElem?_map, List.getElem?_range hi] at hx
        simp only [Option.map_some, Option.some.injEq] at hx
        subst hx
        exact (hVV i j (by omega) hj).2.2
theorem cells_u8 {e : TypeId} (he : P.underlying e = some (.int .u8)) : CellsOk enc' P w base held 0 Z0 e := fun n cs y h => by
  obtain ⟨a, rfl, -, hw⟩ := DataW.trod_int he h
  have hk : kwf .u8 a := by simpa [Lit.wf, kwf] using hw
  refine ⟨UInt8.ofNat a.toNat, trivial, rfl, fun j v hv => ?_⟩
  match j, hv with
  | 0, hv => 
    cases hv
    refine ⟨rfl, ?_⟩
    show Rep w _ noIds (.int .u8 a) (.int .u8 ((UInt8.ofNat a.toNat).toNat : Int))
    rw [kwf_u8 hk]; exact .int hk
theorem cells_i64 {e : TypeId} (he : P.underlying e = some (.int .i64)) : CellsOk enc' P w base held 1 Z0 e := fun n cs y h => by
  obtain ⟨a, rfl, -, hw⟩ := DataW.trod_int he h
  have hk : kwf .i64 a := by simpa [Lit.wf, kwf] using hw
  refine ⟨a, trivial, rfl, fun j v hv => ?_⟩
  match j, hv with
  | 0, hv => 
    cases hv
    exact ⟨rfl, .int hk⟩
theorem cells_u32 {e : TypeId} (he : P.underlying e = some (.int .u32)) : CellsOk enc' P w base held 2 Z0 e := fun n cs y h => by
  obtain ⟨a, rfl, -, hw⟩ := DataW.trod_int he h
  have hk : kwf .u32 a := by simpa [Lit.wf, kwf] using hw
  refine ⟨UInt32.ofNat a.toNat, trivial, rfl, fun j v hv => ?_⟩
  match j, hv with
  | 0, hv => 
    cases hv
    refine ⟨rfl, ?_⟩
    show Rep w _ noIds (.int .u32 a) (.int .u32 ((UInt32.ofNat a.toNat).toNat : Int))
    rw [kwf_u32 hk]; exact .int hk
theorem cells_bool {e : TypeId} (he : P.underlying e = some .bool) : CellsOk enc' P w base held 4 Z0 e := fun n cs y h => by
  obtain ⟨a, rfl, -⟩ := DataW.trod_bool he h
  refine ⟨a, trivial, rfl, fun j v hv => ?_⟩
  match j, hv with
  | 0, hv => 
    cases hv
    exact ⟨rfl, .bool⟩
theorem cells_bytes {t e : TypeId} (ht : P.underlying t = some (.slice e)) (he : P.underlying e = some (.int .u8)) (hsz : P.cellsOf e = 1) : CellsOk enc' P w base held 6 (DSz Z0) t := fun n cs y h => by
  obtain ⟨v, xs, rfl, ho, hr, hz⟩ := rep_slice (c := 0) (by decide) ht hsz (cells_u8 he) h
  refine ⟨xs, hz, rfl, fun j u hv => ?_⟩
  match j, hv with
  | 0, hv => cases hv; exact ⟨ho, hr⟩
theorem cells_ints {t e : TypeId} (ht : P.underlying t = some (.slice e)) (he : P.underlying e = some (.int .i64)) (hsz : P.cellsOf e = 1) : CellsOk enc' P w base held 7 (DSz Z0) t := fun n cs y h => by
  obtain ⟨v, xs, rfl, ho, hr, hz⟩ := rep_slice (c := 1) (by decide) ht hsz (cells_i64 he) h
  refine ⟨xs, hz, rfl, fun j u hv => ?_⟩
  match j, hv with
  | 0, hv => cases hv; exact ⟨ho, hr⟩
def ZMsg (d : DataW H) (m : Msg) : Prop := ∃ d0 d1 d2, d = .agg [d0, d1, d2] ∧ DSz Z0 d2 m.body
theorem cells_msgs {t e : TypeId} (ht : P.underlying t = some (.slice e)) (hsz : P.cellsOf e = 3) (hel : CellsOk enc' P w base held 8 ZMsg e) : CellsOk enc' P w base held 11 (DSz ZMsg) t := fun n cs y h => by
  obtain ⟨v, xs, rfl, ho, hr, hz⟩ := rep_slice (c := 8) (by decide) ht hsz hel h
  refine ⟨xs, hz, rfl, fun j u hv => ?_⟩
  match j, hv with
  | 0, hv => cases hv; exact ⟨ho, hr⟩
theorem cells_msg {t t1 t2 t3 t4 : TypeId} {fs : Array Field} (ht : P.underlying t = some (.struct fs)) (hsz : P.cellsOf t = 3) (hfs : (fs.toList.map fun f => (f.offset, f.type)) = [(0, t1), (1, t2), (2, t3)]) (h1 : P.underlying t1 = some (.int .u8)) (h2 : P.underlying t2 = some (.int .u32)) (h3 : P.underlying t3 = some (.slice t4)) (h4 : P.underlying t4 = some (.int .u8))
    (z1 : P.cellsOf t1 = 1) (z2 : P.cellsOf t2 = 1) (z3 : P.cellsOf t3 = 1) (z4 : P.cellsOf t4 = 1) : CellsOk enc' P w base held 8 ZMsg t := fun n cs y h => by
  obtain ⟨xs, m, -, rfl, hl, hlen, hf⟩ := DataW.trod_struct ht h
  rw [hsz] at hl
  match cs, hl with
  | [c0, c1, c2], _ =>
    have fsz : fs.size = 3 := by have := congrArg List.length hfs; simpa using this
    have hget : ∀ i (p : Nat × TypeId), [(0, t1), (1, t2), (2, t3)][i]? = some p → ∃ f : Field, fs[i]? = some f ∧ f.offset = p.1 ∧ f.type = p.2 := fun i p hp => by
      rw [← hfs, List.getElem?_map] at hp
      obtain ⟨f, hf, rfl⟩ := Option.map_eq_some_iff.1 hp
      exact ⟨f, by simpa using hf, rfl, rfl⟩
    have field : ∀ i (p : Nat × TypeId), [(0, t1), (1, t2), (2, t3)][i]? = some p → ∃ y', xs[i]? = some y' ∧ DataW.trod enc' P w base (fun _ => true) held m p.2 (([c0, c1, c2].drop p.1).take (P.cellsOf p.2)) = some y' := fun i p hp => by
      obtain ⟨f, hf1, hf2, hf3⟩ := hget i p hp
      have := hf i f hf1
      rw [hf2, hf3] at this
      have hi : i < xs.length := by
        have : i < fs.size := by
          rcases Nat.lt_or_ge i fs.size with h | h
          · exact h
          · rw [Array.getElem?_eq_none h] at hf1; cases hf1
        omega
      exact ⟨xs[i], List.getElem?_eq_getElem hi, by rw [this, List.getElem?_eq_getElem hi]⟩
    obtain ⟨y0, g0, h0⟩ := field 0 (0, t1) rfl
    obtain ⟨y1, g1, hh1⟩ := field 1 (1, t2) rfl
    obtain ⟨y2, g2, hh2⟩ := field 2 (2, t3) rfl
    dsimp only at h0 hh1 hh2
    rw [z1] at h0
    rw [z2] at hh1
    rw [z3] at hh2
    obtain ⟨a0, e0, -, w0⟩ := DataW.trod_int h1 h0
    obtain ⟨a1, e1, -, w1⟩ := DataW.trod_int h2 hh1
    obtain ⟨v, bs, e2, ho, hr, hz⟩ := rep_slice (c := 0) (by decide) h3 z4 (cells_u8 h4) hh2
    simp at e0 e1 e2
    subst e0; subst e1; subst e2
    have k0 : kwf .u8 a0 := by simpa [Lit.wf, kwf] using w0
    have k1 : kwf .u32 a1 := by simpa [Lit.wf, kwf] using w1
    have hxs : xs = [y0, y1, y2] := by
      match xs, (by omega : xs.length = 3), g0, g1, g2 with
      | [a, b, c], _, g0, g1, g2 => simp at g0 g1 g2; rw [g0, g1, g2]
    refine ⟨⟨UInt8.ofNat a0.toNat, UInt32.ofNat a1.toNat, bs⟩, ⟨y0.1, y1.1, y2.1, by rw [hxs]; rfl, hz⟩, rfl, fun j u hv => ?_⟩
    match j, hv with
    | 0, hv =>
      cases hv
      refine ⟨rfl, ?_⟩
      show Rep w _ noIds (.int .u8 a0) (.int .u8 ((UInt8.ofNat a0.toNat).toNat : Int))
      rw [kwf_u8 k0]; exact .int k0
    | 1, hv =>
      cases hv
      refine ⟨rfl, ?_⟩
      show Rep w _ noIds (.int .u32 a1) (.int .u32 ((UInt32.ofNat a1.toNat).toNat : Int))
      rw [kwf_u32 k1]; exact .int k1
    | 2, hv =>
      cases hv
      exact ⟨ho, hr⟩
    | j + 3, hv => simp at hv
def ZPut (d : DataW H) (m : Put) : Prop := ∃ d0 d1, d = .agg [d0, d1] ∧ DSz Z0 d1 m.data
theorem cells_put {t t1 t2 t3 : TypeId} {fs : Array Field} (ht : P.underlying t = some (.struct fs)) (hsz : P.cellsOf t = 2) (hfs : (fs.toList.map fun f => (f.offset, f.type)) = [(0, t1), (1, t2)]) (h1 : P.underlying t1 = some (.int .i64)) (h3 : P.underlying t2 = some (.slice t3)) (h4 : P.underlying t3 = some (.int .u8))
    (z1 : P.cellsOf t1 = 1) (z3 : P.cellsOf t2 = 1) (z4 : P.cellsOf t3 = 1) : CellsOk enc' P w base held 9 ZPut t := fun n cs y h => by
  obtain ⟨xs, m, -, rfl, hl, hlen, hf⟩ := DataW.trod_struct ht h
  rw [hsz] at hl
  match cs, hl with
  | [c0, c1], _ =>
    have fsz : fs.size = 2 := by have := congrArg List.length hfs; simpa using this
    have hget : ∀ i (p : Nat × TypeId), [(0, t1), (1, t2)][i]? = some p → ∃ f : Field, fs[i]? = some f ∧ f.offset = p.1 ∧ f.type = p.2 := fun i p hp => by
      rw [← hfs, List.getElem?_map] at hp
      obtain ⟨f, hf, rfl⟩ := Option.map_eq_some_iff.1 hp
      exact ⟨f, by simpa using hf, rfl, rfl⟩
    have field : ∀ i (p : Nat × TypeId), [(0, t1), (1, t2)][i]? = some p → ∃ y', xs[i]? = some y' ∧ DataW.trod enc' P w base (fun _ => true) held m p.2 (([c0, c1].drop p.1).take (P.cellsOf p.2)) = some y' := fun i p hp => by
      obtain ⟨f, hf1, hf2, hf3⟩ := hget i p hp
      have := hf i f hf1
      rw [hf2, hf3] at this
      have hi : i < xs.length := by
        have : i < fs.size := by
          rcases Nat.lt_or_ge i fs.size with h | h
          · exact h
          · rw [Array.getElem?_eq_none h] at hf1; cases hf1
        omega
      exact ⟨xs[i], List.getElem?_eq_getElem hi, by rw [this, List.getElem?_eq_getElem hi]⟩
    obtain ⟨y0, g0, h0⟩ := field 0 (0, t1) rfl
    obtain ⟨y1, g1, hh1⟩ := field 1 (1, t2) rfl
    dsimp only at h0 hh1
    rw [z1] at h0
    rw [z3] at hh1
    obtain ⟨a0, e0, -, w0⟩ := DataW.trod_int h1 h0
    obtain ⟨v, bs, e2, ho, hr, hz⟩ := rep_slice (c := 0) (by decide) h3 z4 (cells_u8 h4) hh1
    simp at e0 e2
    subst e0; subst e2
    have k0 : kwf .i64 a0 := by simpa [Lit.wf, kwf] using w0
    have hxs : xs = [y0, y1] := by
      match xs, (by omega : xs.length = 2), g0, g1 with
      | [a, b], _, g0, g1 => simp at g0 g1; rw [g0, g1]
    refine ⟨⟨a0, bs⟩, ⟨y0.1, y1.1, by rw [hxs]; rfl, hz⟩, rfl, fun j u hv => ?_⟩
    match j, hv with
    | 0, hv =>
      cases hv
      exact ⟨rfl, .int k0⟩
    | 1, hv =>
      cases hv
      exact ⟨ho, hr⟩
    | j + 2, hv => simp at hv
def ZPlan (d : DataW H) (m : Plan) : Prop := ∃ d0 d1 d2, d = .agg [d0, d1, d2] ∧ DSz Z0 d2 m.splits
theorem cells_plan {t t1 t2 t3 t4 : TypeId} {fs : Array Field} (ht : P.underlying t = some (.struct fs)) (hsz : P.cellsOf t = 3) (hfs : (fs.toList.map fun f => (f.offset, f.type)) = [(0, t1), (1, t2), (2, t3)]) (h1 : P.underlying t1 = some (.int .i64)) (h2 : P.underlying t2 = some (.int .i64)) (h3 : P.underlying t3 = some (.slice t4)) (h4 : P.underlying t4 = some (.int .i64))
    (z1 : P.cellsOf t1 = 1) (z2 : P.cellsOf t2 = 1) (z3 : P.cellsOf t3 = 1) (z4 : P.cellsOf t4 = 1) : CellsOk enc' P w base held 10 ZPlan t := fun n cs y h => by
  obtain ⟨xs, m, -, rfl, hl, hlen, hf⟩ := DataW.trod_struct ht h
  rw [hsz] at hl
  match cs, hl with
  | [c0, c1, c2], _ =>
    have fsz : fs.size = 3 := by have := congrArg List.length hfs; simpa using this
    have hget : ∀ i (p : Nat × TypeId), [(0, t1), (1, t2), (2, t3)][i]? = some p → ∃ f : Field, fs[i]? = some f ∧ f.offset = p.1 ∧ f.type = p.2 := fun i p hp => by
      rw [← hfs, List.getElem?_map] at hp
      obtain ⟨f, hf, rfl⟩ := Option.map_eq_some_iff.1 hp
      exact ⟨f, by simpa using hf, rfl, rfl⟩
    have field : ∀ i (p : Nat × TypeId), [(0, t1), (1, t2), (2, t3)][i]? = some p → ∃ y', xs[i]? = some y' ∧ DataW.trod enc' P w base (fun _ => true) held m p.2 (([c0, c1, c2].drop p.1).take (P.cellsOf p.2)) = some y' := fun i p hp => by
      obtain ⟨f, hf1, hf2, hf3⟩ := hget i p hp
      have := hf i f hf1
      rw [hf2, hf3] at this
      have hi : i < xs.length := by
        have : i < fs.size := by
          rcases Nat.lt_or_ge i fs.size with h | h
          · exact h
          · rw [Array.getElem?_eq_none h] at hf1; cases hf1
        omega
      exact ⟨xs[i], List.getElem?_eq_getElem hi, by rw [this, List.getElem?_eq_getElem hi]⟩
    obtain ⟨y0, g0, h0⟩ := field 0 (0, t1) rfl
    obtain ⟨y1, g1, hh1⟩ := field 1 (1, t2) rfl
    obtain ⟨y2, g2, hh2⟩ := field 2 (2, t3) rfl
    dsimp only at h0 hh1 hh2
    rw [z1] at h0
    rw [z2] at hh1
    rw [z3] at hh2
    obtain ⟨a0, e0, -, w0⟩ := DataW.trod_int h1 h0
    obtain ⟨a1, e1, -, w1⟩ := DataW.trod_int h2 hh1
    obtain ⟨v, bs, e2, ho, hr, hz⟩ := rep_slice (c := 1) (by decide) h3 z4 (cells_i64 h4) hh2
    simp at e0 e1 e2
    subst e0; subst e1; subst e2
    have k0 : kwf .i64 a0 := by simpa [Lit.wf, kwf] using w0
    have k1 : kwf .i64 a1 := by simpa [Lit.wf, kwf] using w1
    have hxs : xs = [y0, y1, y2] := by
      match xs, (by omega : xs.length = 3), g0, g1, g2 with
      | [a, b, c], _, g0, g1, g2 => simp at g0 g1 g2; rw [g0, g1, g2]
    refine ⟨⟨a0, a1, bs⟩, ⟨y0.1, y1.1, y2.1, by rw [hxs]; rfl, hz⟩, rfl, fun j u hv => ?_⟩
    match j, hv with
    | 0, hv =>
      cases hv
      exact ⟨rfl, .int k0⟩
    | 1, hv =>
      cases hv
      exact ⟨rfl, .int k1⟩
    | 2, hv =>
      cases hv
      exact ⟨ho, hr⟩
    | j + 3, hv => simp at hv
end
end Go.Eng
namespace Go.Eng
open Go Go.ChangeShapes
set_option linter.unusedVariables false
theorem rep_in {H : Type} {enc' : TypeId × Value → H} {P : Program} {w : World} {base base' : Nat} {held : Bool} {r : Reach} {c : Nat} {Z : DataW H → ty c → Prop} (hc : c < 12) {t e : TypeId} {fuel : Nat} {v : Value} {x : DataW H × List MemPlace} (ht : P.underlying t = some (.slice e)) (hsz : P.cellsOf e = szOf c) (hel : CellsOk enc' P w base' held c Z e)
    (hok : Value.okWide P w r base t v) (h : DataW.trod enc' P w base' (fun _ => true) held fuel t v.cells.toList = some x) : ∃ xs : List (ty c), Rep w (· < w.heap.size) noIds v (.sl c xs) ∧ DSz Z x.1 xs := by
  obtain ⟨a, len, cap, rfl⟩ := Go.WideShapes.okWide_slice ht hok
  obtain ⟨v, xs, e, -, hr, hd⟩ := rep_slice hc ht hsz hel h
  simp [Value.cells] at e
  subst e
  exact ⟨xs, hr, hd⟩
end Go.Eng
namespace Go.Eng
open Go
set_option linter.unusedVariables false
def frzF : Nat → List Blk → AV → Option AV
  | _, [], r => some r
  | j, .row c xs :: F, r => frzF (j + 1) F (frz j c xs r)
  | _, .cells _ :: _, _ => none
def fzA (k : AV → List (Option Blk) → List Blk → Prop) (r : AV) (bs : List (Option Blk)) (F : List Blk) : Prop := match frzF 0 F r with
  | some r' => k r' [] []
  | none => False
theorem frzF_rep {w : World} {im : Nat → Prop} {v : Value} : ∀ (F : List Blk) (j : Nat) (ρ : Ids) (r r' : AV), frzF j F r = some r' → Rep w im ρ v r → (∀ i b, F[i]? = some b → ∃ ob, ρ (j + i) = some ob ∧ BRep w im noIds ob b) →
    (∀ i b m, ρ i = some (some b, m) → im b) → (∀ i, i < j → ρ i = none) → (∀ i, j + F.length ≤ i → ρ i = none) → Rep w im noIds v r'
  | [], j, ρ, r, r', h, hr, hB, him, h1, h2 => by
    cases h
    have hn : ∀ i, ρ i = none := fun i => by
      rcases Nat.lt_or_ge i j with c | c
      · exact h1 i c
      · exact h2 i (by simpa using c)
    exact hr.stable (fun _ _ => rfl) (fun _ h => h) (fun i x hx => by rw [hn] at hx; cases hx) (fun _ _ _ _ => rfl)
  | .cells _ :: _, j, ρ, r, r', h, hr, hB, him, h1, h2 => by cases h
  | .row c xs :: F, j, ρ, r, r', h, hr, hB, him, h1, h2 => by
    obtain ⟨ob, ho, hb⟩ := hB 0 _ rfl
    refine frzF_rep F (j + 1) (fun i => if i = j then none else ρ i) _ r' h (hr.frz j hb (fun _ h => h) (fun b hb' => ?_) (fun x hx => by rw [Nat.add_zero] at ho; rw [ho] at hx; exact (Option.some.inj hx).symm) (fun i x hi hx => by rw [if_neg hi]; exact hx)) (fun i b hi => ?_) (fun i b m hi => ?_) (fun i hi => ?_) (fun i hi => ?_)
    · obtain ⟨o1, o2⟩ := ob
      dsimp only at hb'
      subst hb'
      exact him _ _ _ ho
    · obtain ⟨ob', h3, h4⟩ := hB (i + 1) b hi
      exact ⟨ob', by rw [if_neg (by omega), show j + 1 + i = j + (i + 1) by omega]; exact h3, h4⟩
    · split at hi
      · cases hi
      · exact him _ _ _ hi
    · by_cases e : i = j
      · rw [if_pos e]
      · rw [if_neg e]; exact h1 i (by omega)
    · by_cases e : i = j
      · rw [if_pos e]
      · rw [if_neg e]; exact h2 i (by simp only [List.length_cons]; omega)
theorem brep_rows {w : World} {im im' : Nat → Prop} {ρ : Ids} {ob : Option Nat × Nat} {c : Nat} {xs : List (ty c)} (h : BRep w im ρ ob (.row c xs)) (him : ∀ b, im b → im' b) : BRep w im' noIds ob (.row c xs) := by
  obtain ⟨h1, h2⟩ := h
  refine ⟨h1, ?_⟩
  rcases h2 with h2 | ⟨b, cur, e, cap, a1, a2, a3, a4, a5, a6, a7⟩
  · exact .inl h2
  · exact .inr ⟨b, cur, e, cap, a1, a2, a3, a4, a5, a6, fun i j x v hx hj hv => (a7 i j x v hx hj hv).stable (fun _ _ => rfl) him (fun _ _ h => h) (fun _ _ _ _ => rfl)⟩
theorem frzF_rows : ∀ (F : List Blk) (j : Nat) (r r' : AV), frzF j F r = some r' → ∀ (i : Nat) (b : Blk), F[i]? = some b → ∃ (c : Nat) (xs : List (ty c)), b = Blk.row c xs
  | [], _, _, _, _, i, b, hi => by simp at hi
  | .cells _ :: _, _, _, _, h, _, _, _ => by cases h
  | .row c xs :: F, j, r, r', h, i, b, hi => by
    cases i with
    | zero => simp at hi; exact ⟨c, xs, hi.symm⟩
    | succ i => exact frzF_rows F (j + 1) _ r' h i b hi
theorem HA.fzA {w : World} {P : Program} {f : FuncId} {s t : Spec} (h : HA w P f s) (hro2 : t.ro = false) (ht : ∀ args k, t.run args [] k → s.run args [] (Eng.fzA k)) : HA w P f t := by
  intro im vals args k o a next Q him hKc hlen hrep hrun hnext
  refine h im vals args (Eng.fzA k) o a next Q him hKc hlen hrep (ht args k hrun) fun v w' im' ρ' r F hk hres => ?_
  unfold Eng.fzA at hk
  split at hk
  · rename_i r' hf
    have rows := frzF_rows F 0 r r' hf
    have lt : ∀ i b m, ρ' i = some (some b, m) → b < w'.heap.size := fun i b m hi => by
      cases hF : F[i]? with
      | none => rw [hres.dom i hF] at hi; cases hi
      | some B =>
        obtain ⟨ob, h1, h2⟩ := hres.blk i B hF
        rw [hi] at h1
        cases h1
        obtain ⟨c, xs, rfl⟩ := rows i B hF
        exact (h2 : BRep w' im' ρ' (some b, m) (.row c xs)).lt rfl
    refine hnext v w' (fun b => im b ∨ im' b ∨ ∃ i m, ρ' i = some (some b, m)) noIds r' [] hk ?_
    rw [hro2]
    exact { below := hres.below
            imold := fun _ b hb => .inl hb
            imnew := fun b hb => by
              rcases hb with hb | hb | ⟨i, m, hb⟩
              · exact .inl ⟨rfl, hb⟩
              · rcases hres.imnew b hb with c | c
                · exact .inl ⟨rfl, c.2⟩
                · exact .inr c
              · exact .inr ⟨hres.fresh _ _ _ hb, lt _ _ _ hb⟩
            dom := fun _ _ => rfl
            blk := fun j b hj => by simp at hj
            inj := fun _ _ _ _ _ hi => by simp [noIds] at hi
            notim := fun _ _ _ hi => by simp [noIds] at hi
            fresh := fun _ _ _ hi => by simp [noIds] at hi
            rep := frzF_rep F 0 ρ' r r' hf (hres.rep.stable (fun _ _ => rfl) (fun _ h => .inr (.inl h)) (fun _ _ h => h) (fun _ _ _ _ => rfl)) (fun i b hi => by
                obtain ⟨ob, h1, h2⟩ := hres.blk i b hi
                obtain ⟨c, xs, rfl⟩ := rows i b hi
                exact ⟨ob, by rw [Nat.zero_add]; exact h1, brep_rows h2 (fun _ h => .inr (.inl h))⟩)
              (fun i b m hi => .inr (.inr ⟨i, m, hi⟩)) (fun i hi => by omega) (fun i hi => hres.dom i (by rw [List.getElem?_eq_none]; omega)) }
  · exact hk.elim
theorem Holds.fzA {P : Program} {f : FuncId} {s t : Spec} (h : Holds P f s) (hro2 : t.ro = false) (hown : s.own = []) (hown2 : t.own = []) (ht : ∀ args k, t.run args [] k → s.run args [] (Eng.fzA k)) : Holds P f t :=
  HoldsA.h (fun w => HA.fzA (h.a hown w) hro2 ht) hown2
theorem HoldsN.fzA {n : Nat} {P : Program} {f : FuncId} {s t : Spec} (h : HoldsN n P f s) (hro2 : t.ro = false) (hown : s.own = []) (hown2 : t.own = []) (ht : ∀ args k, t.run args [] k → s.run args [] (Eng.fzA k)) : HoldsN n P f t :=
  HoldsN.of hown2 fun w hw => HA.fzA (h.a hown w hw) hro2 ht
end Go.Eng
namespace Go.Eng
open Go
set_option linter.unusedVariables false
def nlP (c p : Nat) (k : AV → List (Option Blk) → List Blk → Prop) (r : AV) (bs : List (Option Blk)) (F : List Blk) : Prop := match r with
  | .tup vs => match nth vs p with
    | .nilsl => k (.tup (setNth vs p (.row c F.length 0 0))) [] (F ++ [.row c []])
    | _ => k r [] F
  | _ => k r [] F
theorem HA.nlAt {w : World} {P : Program} {f : FuncId} {s t : Spec} (c p : Nat) (h : HA w P f s) (hro : s.ro = t.ro) (ht : ∀ args k, t.run args [] k → s.run args [] (nlP c p k)) : HA w P f t := by
  intro im vals args k o a next Q him hKc hlen hrep hrun hnext
  refine h im vals args (nlP c p k) o a next Q him hKc hlen hrep (ht args k hrun) fun v w' im' ρ' r F hk hres => ?_
  rw [hro] at hres
  unfold nlP at hk
  split at hk
  · rename_i vs
    split at hk
    · rename_i hp
      have hpl : p < vs.length := by
        rcases Nat.lt_or_ge p vs.length with h | h
        · exact h
        · rw [nth_eq, List.getElem?_eq_none h] at hp; cases hp
      have hno : ρ' F.length = none := hres.dom F.length (List.getElem?_eq_none (Nat.le_refl _))
      refine hnext v w' im' (fun i => if i = F.length then some (none, 0) else ρ' i) _ _ hk ?_
      obtain ⟨us, rfl, h1, h2⟩ := hres.rep.inv_tup
      have mono : ∀ i x, ρ' i = some x → (if i = F.length then some (none, 0) else ρ' i) = some x := fun i x hx => by
        by_cases e : i = F.length
        · rw [e, hno] at hx; cases hx
        · rw [if_neg e]; exact hx
      have up : ∀ {v a}, Rep w' im' ρ' v a → Rep w' im' (fun i => if i = F.length then some (none, 0) else ρ' i) v a := fun h => h.stable (fun _ _ => rfl) (fun _ h => h) mono (fun _ _ _ _ => rfl)
      have back : ∀ i b m, (if i = F.length then some ((none : Option Nat), 0) else ρ' i) = some (some b, m) → ρ' i = some (some b, m) := fun i b m hi => by
        by_cases e : i = F.length
        · rw [if_pos e] at hi; simp at hi
        · rw [if_neg e] at hi; exact hi
      exact { below := hres.below, imold := hres.imold, imnew := hres.imnew
              dom := fun j hj => by
                have hj2 : F.length + 1 ≤ j := by
                  rcases Nat.lt_or_ge j (F.length + 1) with h | h
                  · rw [List.getElem?_eq_getElem (by simp; omega)] at hj; cases hj
                  · exact h
                show (if j = F.length then _ else _) = none
                rw [if_neg (by omega)]
                exact hres.dom j (List.getElem?_eq_none (by omega))
              blk := fun j b hj => by
                by_cases e : j = F.length
                · subst e
                  rw [List.getElem?_append_right (Nat.le_refl _), Nat.sub_self] at hj
                  simp only [List.getElem?_cons_zero, Option.some.injEq] at hj
                  subst hj
                  exact ⟨(none, 0), by simp, rfl, .inl ⟨rfl, rfl⟩⟩
                · have hj2 : j < F.length := by
                    rcases Nat.lt_or_ge j F.length with h | h
                    · exact h
                    · rw [List.getElem?_eq_none (by simp; omega)] at hj; cases hj
                  rw [List.getElem?_append_left hj2] at hj
                  obtain ⟨ob, g1, g2⟩ := hres.blk j b hj
                  refine ⟨ob, mono _ _ g1, ?_⟩
                  cases b with
                  | row c' xs => exact g2
                  | cells cs =>
                    obtain ⟨b, cur, e, a1, a2, a3, a4, a5⟩ := g2
                    exact ⟨b, cur, e, a1, a2, a3, a4, fun j v hv => up (a5 j v hv)⟩
              inj := fun i j b m m' hi hj => hres.inj i j b m m' (back _ _ _ hi) (back _ _ _ hj)
              notim := fun i b m hi => hres.notim i b m (back _ _ _ hi)
              fresh := fun i b m hi => hres.fresh i b m (back _ _ _ hi)
              rep := .tup (by rw [setNth_eq]; simpa using h1) fun j u hu => by
                rw [setNth_eq, nth_eq, List.getElem?_set]
                have h3 := h2 j u hu
                by_cases e : p = j
                · subst e
                  rw [if_pos rfl, if_pos hpl]
                  rw [hp] at h3
                  rw [h3.inv_nilsl]
                  exact .row0 (by simp)
                · rw [if_neg e, ← nth_eq]
                  exact up h3 }
    · exact hnext v w' im' ρ' _ _ hk hres
  · exact hnext v w' im' ρ' _ _ hk hres
theorem Holds.nlAt {P : Program} {f : FuncId} {s t : Spec} (c p : Nat) (h : Holds P f s) (hro : s.ro = t.ro) (hown : s.own = []) (hown2 : t.own = []) (ht : ∀ args k, t.run args [] k → s.run args [] (nlP c p k)) : Holds P f t :=
  HoldsA.h (fun w => HA.nlAt c p (h.a hown w) hro ht) hown2
theorem HoldsN.nlAt {n : Nat} {P : Program} {f : FuncId} {s t : Spec} (c p : Nat) (h : HoldsN n P f s) (hro : s.ro = t.ro) (hown : s.own = []) (hown2 : t.own = []) (ht : ∀ args k, t.run args [] k → s.run args [] (nlP c p k)) : HoldsN n P f t :=
  HoldsN.of hown2 fun w hw => HA.nlAt c p (h.a hown w hw) hro ht
theorem HoldsN.holds {P : Program} {f : FuncId} {s : Spec} (h : HoldsN 0 P f s) (hown : s.own = []) : Holds P f s := HoldsA.h (fun w => h.a hown w (Nat.zero_le _)) hown
end Go.Eng
namespace Go.Eng
open Go
set_option linter.unusedVariables false
theorem HA.up {w : World} {P : Program} {f : FuncId} {s t : Spec} (g : AV → AV) (hg : ∀ (w : World) (im : Nat → Prop) (ρ : Ids) (v : Value) (r : AV), Rep w im ρ v r → Rep w im ρ v (g r)) (h : HA w P f s) (hro : s.ro = t.ro) (ht : ∀ args k, t.run args [] k → s.run args [] (fun r bs F => k (g r) bs F)) : HA w P f t := by
  intro im vals args k o a next Q him hKc hlen hrep hrun hnext
  refine h im vals args _ o a next Q him hKc hlen hrep (ht args k hrun) fun v w' im' ρ' r F hk hres => ?_
  rw [hro] at hres
  exact hnext v w' im' ρ' _ _ hk { hres with rep := hg _ _ _ _ _ hres.rep }
theorem Holds.up {P : Program} {f : FuncId} {s t : Spec} (g : AV → AV) (hg : ∀ (w : World) (im : Nat → Prop) (ρ : Ids) (v : Value) (r : AV), Rep w im ρ v r → Rep w im ρ v (g r)) (h : Holds P f s) (hro : s.ro = t.ro) (hown : s.own = []) (hown2 : t.own = []) (ht : ∀ args k, t.run args [] k → s.run args [] (fun r bs F => k (g r) bs F)) : Holds P f t :=
  HoldsA.h (fun w => HA.up g hg (h.a hown w) hro ht) hown2
theorem HoldsN.up {n : Nat} {P : Program} {f : FuncId} {s t : Spec} (g : AV → AV) (hg : ∀ (w : World) (im : Nat → Prop) (ρ : Ids) (v : Value) (r : AV), Rep w im ρ v r → Rep w im ρ v (g r)) (h : HoldsN n P f s) (hro : s.ro = t.ro) (hown : s.own = []) (hown2 : t.own = []) (ht : ∀ args k, t.run args [] k → s.run args [] (fun r bs F => k (g r) bs F)) : HoldsN n P f t :=
  HoldsN.of hown2 fun w hw => HA.up g hg (h.a hown w hw) hro ht
def nilT : AV → AV
  | .tup vs => .tup (vs.map nilB)
  | x => nilB x
theorem nilT_rep {w : World} {im : Nat → Prop} {ρ : Ids} {v : Value} {r : AV} (h : Rep w im ρ v r) : Rep w im ρ v (nilT r) := by
  unfold nilT
  split
  · obtain ⟨us, rfl, h1, h2⟩ := h.inv_tup
    exact .tup (by simpa using h1) fun j u hu => by
      rw [nth_map_dead rfl]
      exact nilB_rep (h2 j u hu)
  · exact nilB_rep h
end Go.Eng
namespace Go.Eng
open Go
def nilC (c : Nat) : AV → AV
  | .nilsl => .sl c []
  | x => x
theorem nilC_rep {c : Nat} {w : World} {im : Nat → Prop} {ρ : Ids} {v : Value} {x : AV} (h : Rep w im ρ v x) : Rep w im ρ v (nilC c x) := by
  unfold nilC
  split
  · rw [h.inv_nilsl]; exact .sl0
  · exact h
theorem Holds.nilC {P : Program} {f : FuncId} {s : Spec} (c : Nat) (h : Holds P f s) (hown : s.own = [] := by rfl) : Holds P f { s with run := fun args B k => s.run (args.map (Eng.nilC c)) B k } := by
  refine HoldsA.h ?_ hown
  intro w im vals args k o a next Q him hKc hlen hrep hrun hnext
  refine h.a hown w im vals (args.map (Eng.nilC c)) k o a next Q him hKc (by simpa using hlen) (fun j v hj => ?_) hrun hnext
  rw [nth_map_dead rfl]
  exact nilC_rep (hrep j v hj)
end Go.Eng
namespace Go.Eng
open Go
set_option linter.unusedVariables false
def tupC (p c : Nat) : AV → AV
  | .tup vs => .tup (setNth vs p (nilC c (nth vs p)))
  | x => x
theorem tupC_rep {p c : Nat} {w : World} {im : Nat → Prop} {ρ : Ids} {v : Value} {r : AV} (h : Rep w im ρ v r) : Rep w im ρ v (tupC p c r) := by
  unfold tupC
  split
  · rename_i vs
    obtain ⟨us, rfl, h1, h2⟩ := h.inv_tup
    refine .tup (by rw [setNth_eq]; simpa using h1) fun j u hu => ?_
    have h3 := h2 j u hu
    have hj : j < vs.length := by
      have := (Array.getElem?_eq_some_iff.1 hu).1
      omega
    rw [setNth_eq, nth_eq, List.getElem?_set]
    by_cases e : p = j
    · subst e
      rw [if_pos rfl, if_pos hj]
      exact nilC_rep h3
    · rw [if_neg e, ← nth_eq]
      exact h3
  · exact h
theorem Holds.argUp {P : Program} {f : FuncId} {s : Spec} (g : List AV → List AV) (hl : ∀ l, (g l).length = l.length) (hg : ∀ (w : World) (im : Nat → Prop) (ρ : Ids) (v : Value) (l : List AV) (j : Nat), Rep w im ρ v (nth l j) → Rep w im ρ v (nth (g l) j)) (h : Holds P f s) (hown : s.own = [] := by rfl) : Holds P f { s with run := fun args B k => s.run (g args) B k } := by
  refine HoldsA.h ?_ hown
  intro w im vals args k o a next Q him hKc hlen hrep hrun hnext
  exact h.a hown w im vals (g args) k o a next Q him hKc (by rw [hl]; exact hlen) (fun j v hj => hg _ _ _ _ _ _ (hrep j v hj)) hrun hnext
def nil3 (a b c : Nat) : List AV → List AV
  | [x, y, z] => [nilC a x, nilC b y, nilC c z]
  | l => l
theorem nil3_len (a b c : Nat) (l : List AV) : (nil3 a b c l).length = l.length := by
  unfold nil3; split <;> rfl
theorem nil3_rep (a b c : Nat) (w : World) (im : Nat → Prop) (ρ : Ids) (v : Value) (l : List AV) (j : Nat) (h : Rep w im ρ v (nth l j)) : Rep w im ρ v (nth (nil3 a b c l) j) := by
  unfold nil3
  split
  · match j with
    | 0 => exact nilC_rep h
    | 1 => exact nilC_rep h
    | 2 => exact nilC_rep h
    | j + 3 => exact h
  · exact h
end Go.Eng
namespace Go.Eng
open Go
set_option linter.unusedVariables false
def nlC (c p : Nat) (k : AV → List (Option Blk) → List Blk → Prop) (r : AV) (bs : List (Option Blk)) (F : List Blk) : Prop := match F with
  | [.cells cs] => match nth cs p with
    | .nilsl => k r [] [.cells (setNth cs p (.row c 1 0 0)), .row c []]
    | _ => k r [] F
  | _ => k r [] F
theorem Holds.nlCell {P : Program} {f : FuncId} {s t : Spec} (c p : Nat) (h : Holds P f s) (hro : s.ro = t.ro) (hown : s.own = []) (hown2 : t.own = []) (ht : ∀ args k, t.run args [] k → s.run args [] (nlC c p k)) : Holds P f t := by
  refine HoldsA.h ?_ hown2
  intro w im vals args k o a next Q him hKc hlen hrep hrun hnext
  refine h.a hown w im vals args (nlC c p k) o a next Q him hKc hlen hrep (ht args k hrun) fun v w' im' ρ' r F hk hres => ?_
  rw [hro] at hres
  unfold nlC at hk
  split at hk
  · rename_i cs
    split at hk
    · rename_i hp
      have hno : ρ' 1 = none := hres.dom 1 rfl
      refine hnext v w' im' (fun i => if i = 1 then some (none, 0) else ρ' i) _ _ hk ?_
      have mono : ∀ i x, ρ' i = some x → (if i = 1 then some (none, 0) else ρ' i) = some x := fun i x hx => by
        by_cases e : i = 1
        · rw [e, hno] at hx; cases hx
        · rw [if_neg e]; exact hx
      have up : ∀ {v a}, Rep w' im' ρ' v a → Rep w' im' (fun i => if i = 1 then some (none, 0) else ρ' i) v a := fun h => h.stable (fun _ _ => rfl) (fun _ h => h) mono (fun _ _ _ _ => rfl)
      have back : ∀ i b m, (if i = 1 then some ((none : Option Nat), 0) else ρ' i) = some (some b, m) → ρ' i = some (some b, m) := fun i b m hi => by
        by_cases e : i = 1
        · rw [if_pos e] at hi; simp at hi
        · rw [if_neg e] at hi; exact hi
      exact { below := hres.below, imold := hres.imold, imnew := hres.imnew
              dom := fun j hj => by
                match j, hj with
                | 0, hj => simp at hj
                | 1, hj => simp at hj
                | j + 2, hj =>
                  show (if j + 2 = 1 then _ else _) = none
                  rw [if_neg (by omega)]
                  exact hres.dom _ rfl
              blk := fun j b hj => by
                match j, hj with
                | 0, hj =>
                  simp only [List.getElem?_cons_zero, Option.some.injEq] at hj
                  subst hj
                  obtain ⟨ob, g1, b, cur, e, a1, a2, a3, a4, a5⟩ := hres.blk 0 _ rfl
                  refine ⟨ob, mono _ _ g1, b, cur, e, a1, a2, by rw [setNth_eq, List.length_set]; exact a3, a4, fun j v hv => ?_⟩
                  rw [setNth_eq, nth_eq, List.getElem?_set]
                  have h5 := a5 j v hv
                  by_cases q : p = j
                  · subst q
                    rw [if_pos rfl]
                    rw [hp] at h5
                    split
                    · rw [h5.inv_nilsl]; exact .row0 (by simp)
                    · exact .dead
                  · rw [if_neg q, ← nth_eq]; exact up h5
                | 1, hj =>
                  simp only [List.getElem?_cons_succ, List.getElem?_cons_zero, Option.some.injEq] at hj
                  subst hj
                  exact ⟨(none, 0), by simp, rfl, .inl ⟨rfl, rfl⟩⟩
                | j + 2, hj => simp at hj
              inj := fun i j b m m' hi hj => hres.inj i j b m m' (back _ _ _ hi) (back _ _ _ hj)
              notim := fun i b m hi => hres.notim i b m (back _ _ _ hi)
              fresh := fun i b m hi => hres.fresh i b m (back _ _ _ hi)
              rep := up hres.rep }
    · exact hnext v w' im' ρ' _ _ hk hres
  · exact hnext v w' im' ρ' _ _ hk hres
end Go.Eng
namespace Go.Eng
open Go
set_option linter.unusedVariables false
theorem zall_len {H : Type} {α : Type} {Z : DataW H → α → Prop} : ∀ (el : List (DataW H)) (xs : List α), ZAll Z el xs → el.length = xs.length
  | [], [], _ => rfl
  | _ :: el, _ :: xs, h => by rw [List.length_cons, List.length_cons, zall_len el xs h.2]
  | [], _ :: _, h => h.elim
  | _ :: _, [], h => h.elim
theorem reach_all {H : Type} {P : Program} {e e' : TypeId} (hu : P.underlying e = some (.slice e')) (hb : 0 < P.bytesOf e') : ∀ (el : List (DataW H)) (xs : List (List UInt8)), ZAll (DSz Z0) el xs → (∀ n, n ∈ DataW.weightsAll P e el → n ≤ reachBytes) → ∀ i, (xs.getD i []).length ≤ 140737488355328
  | [], [], _, _, i => by simp
  | [], _ :: _, h, _, _ => h.elim
  | _ :: _, [], h, _, _ => h.elim
  | d :: el, x :: xs, h, hn, i => by
    cases i with
    | succ i => exact reach_all hu hb el xs h.2 (fun n hm => hn n (by simp only [DataW.weightsAll, List.mem_append]; exact .inr hm)) i
    | zero =>
      show x.length ≤ _
      rcases h.1 with rfl | ⟨el', sp', rfl, hz⟩
      · exact Nat.zero_le _
      · have l := zall_len el' x hz
        have := hn ((el'.length + sp'.length) * P.bytesOf e') (by simp [DataW.weightsAll, DataW.weights, hu])
        have r : reachBytes ≤ 140737488355328 := by decide
        have : el'.length + sp'.length ≤ (el'.length + sp'.length) * P.bytesOf e' := Nat.le_mul_of_pos_right _ hb
        omega
theorem reach_inner {H : Type} {P : Program} {ts : List TypeId} {ds : List (DataW H)} (h : (DataW.weightsEach P ts ds).all (· ≤ reachBytes) = true) {j : Nat} {t e e' : TypeId} {d : DataW H} {xs : List (List UInt8)} (ht : ts[j]? = some t) (hd : ds[j]? = some d) (hu : P.underlying t = some (.slice e)) (hu' : P.underlying e = some (.slice e')) (hb : 0 < P.bytesOf e') (z : DSz (DSz Z0) d xs) (i : Nat) : (xs.getD i []).length ≤ 140737488355328 := by
  rcases z with rfl | ⟨el, sp, rfl, hz⟩
  · simp
  · refine reach_all hu' hb el xs hz (fun n hn => ?_) i
    have := List.all_eq_true.1 h n (DataW.weights_mem_each ht hd n (by simp [DataW.weights, hu, hn]))
    simpa using this
end Go.Eng
namespace Go.Eng
open Go
theorem Holds.orB {P : Program} {f : FuncId} {s1 s2 t : Spec} (h1 : Holds P f s1) (h2 : Holds P f s2) {o : Bool} {os : List Bool} (e1 : s1.own = o :: os) (e2 : s2.own = o :: os) (e : t.own = o :: os) (ht : ∀ args B k, t.run args B k → s1.run args B k ∨ s2.run args B k) : Holds P f t := by
  refine HoldsB.h (fun w im ρ0 vals args B k o' a next Q a1 a0 a2 a3 a4 a5 a6 a7 => ?_) (by rw [e]; exact List.cons_ne_nil _ _)
  rw [e] at a3
  rcases ht args B k a6 with c | c
  · exact h1.b e1 w im ρ0 vals args B k o' a next Q a1 a0 a2 (by rw [e1]; exact a3) a4 a5 c a7
  · exact h2.b e2 w im ρ0 vals args B k o' a next Q a1 a0 a2 (by rw [e2]; exact a3) a4 a5 c a7
end Go.Eng
