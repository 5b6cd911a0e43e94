import Derived.Test.YtcdflgfhkohldaaEngP
import Derived.KernelRfl
import Derived.Laws.BitsAllLaws
import Derived.Deep.Slices
import Derived.WalkKit
import Derived.ProofKit
import Derived.OpenShut
import Derived.ShutString
import Derived.ChangeOld
import Derived.Below
namespace Go.Eng
open Go
set_option linter.unusedVariables false
set_option linter.unusedSimpArgs false
theorem and_u8 (i : Nat) (hi : i ≤ 8) (m d : Int) (hm : m = 2 ^ i - 1) (hd : d = 2 ^ i) (x : Int) (h0 : 0 ≤ x) (h1 : x ≤ 255) : bits .and .u8 x m = x % d := by
  subst hm; subst hd
  exact bits_mask .u8 8 (by decide) (fun n a b => by rw [IntKind.wrap_u8]; omega) i hi x h0 (by omega)
theorem and_u32 (i : Nat) (hi : i ≤ 32) (m d : Int) (hm : m = 2 ^ i - 1) (hd : d = 2 ^ i) (x : Int) (h0 : 0 ≤ x) (h1 : x ≤ 4294967295) : bits .and .u32 x m = x % d := by
  subst hm; subst hd
  exact bits_mask .u32 32 (by decide) (fun n a b => by rw [IntKind.wrap_u32]; omega) i hi x h0 (by omega)
theorem and_u64 (i : Nat) (hi : i ≤ 64) (m d : Int) (hm : m = 2 ^ i - 1) (hd : d = 2 ^ i) (x : Int) (h0 : 0 ≤ x) (h1 : x ≤ 18446744073709551615) : bits .and .u64 x m = x % d := by
  subst hm; subst hd
  exact bits_mask .u64 64 (by decide) (fun n a b => by rw [IntKind.wrap_u64]; omega) i hi x h0 (by omega)
theorem and_i64 (i : Nat) (hi : i ≤ 63) (m d : Int) (hm : m = 2 ^ i - 1) (hd : d = 2 ^ i) (x : Int) (h0 : 0 ≤ x) (h1 : x ≤ 9223372036854775807) : bits .and .i64 x m = x % d := by
  subst hm; subst hd
  exact bits_mask .i64 63 (by decide) (fun n a b => by rw [IntKind.wrap_i64]; omega) i hi x h0 (by omega)
theorem xor_u32 (x y : Int) (h0 : 0 ≤ x) (h1 : x ≤ 4294967295) (g0 : 0 ≤ y) (g1 : y ≤ 4294967295) : bits .xor .u32 x y = ((x.toNat ^^^ y.toNat : Nat) : Int) := by
  obtain ⟨a, rfl⟩ := Int.eq_ofNat_of_zero_le h0
  obtain ⟨b, rfl⟩ := Int.eq_ofNat_of_zero_le g0
  rw [u32_xor_nat a b (by omega) (by omega)]; simp
theorem xor_u64 (x y : Int) (h0 : 0 ≤ x) (h1 : x ≤ 18446744073709551615) (g0 : 0 ≤ y) (g1 : y ≤ 18446744073709551615) : bits .xor .u64 x y = ((x.toNat ^^^ y.toNat : Nat) : Int) := by
  obtain ⟨a, rfl⟩ := Int.eq_ofNat_of_zero_le h0
  obtain ⟨b, rfl⟩ := Int.eq_ofNat_of_zero_le g0
  rw [u64_xor_nat a b (by omega) (by omega)]; simp
theorem xor_u8 (x y : Int) (h0 : 0 ≤ x) (h1 : x ≤ 255) (g0 : 0 ≤ y) (g1 : y ≤ 255) : bits .xor .u8 x y = ((x.toNat ^^^ y.toNat : Nat) : Int) := by
  obtain ⟨a, rfl⟩ := Int.eq_ofNat_of_zero_le h0
  obtain ⟨b, rfl⟩ := Int.eq_ofNat_of_zero_le g0
  rw [u8_xor_nat a b (by omega) (by omega)]; simp
def eqB (xs ys : List UInt8) : Bool := xs == ys
theorem wrI64 {n : Int} (h : -9223372036854775808 ≤ n ∧ n ≤ 9223372036854775807) : IntKind.i64.wrap n = n := by rw [IntKind.wrap_i64]; omega
theorem wrU64 {n : Int} (h : 0 ≤ n ∧ n ≤ 18446744073709551615) : IntKind.u64.wrap n = n := by rw [IntKind.wrap_u64]; omega
theorem wrU32 {n : Int} (h : 0 ≤ n ∧ n ≤ 4294967295) : IntKind.u32.wrap n = n := by rw [IntKind.wrap_u32]; omega
theorem wrU8 {n : Int} (h : 0 ≤ n ∧ n ≤ 255) : IntKind.u8.wrap n = n := by rw [IntKind.wrap_u8]; omega
end Go.Eng
namespace Go.Eng
open Go
set_option linter.unusedVariables false
set_option linter.unusedSimpArgs false
theorem calls_mono {P : Program} {f : FuncId} {args : Array Value} {w : World} {R R' : Ending → World → Prop} (h : Calls P f args w R) (hR : ∀ e w', R e w' → R' e w') : Calls P f args w R' :=
  fun cs => let ⟨e, w', fr, h1, h2⟩ := h cs; ⟨e, w', fr, hR _ _ h1, h2⟩
theorem calls_of_holds {P : Program} {f : FuncId} {s : Spec} (h : Holds P f s) (hc : ∀ args w, (callFunc f args).run P w = .ok (.enter f args) w) {w : World} {vals : Array Value} {args : List AV}
    (hsz : vals.size = args.length) (hrep : ∀ (j : Nat) (v : Value), vals[j]? = some v → Rep w (· < w.heap.size) noIds v (nth args j)) (hrun : s.run args [] (fun r _ _ => r = .bool true)) (hown : s.own = [] := by rfl) (hK : Kc w (· < w.heap.size) := by exact trivial) :
    Calls P f vals w fun e w' => e = .returned (.bool true) ∧ RowKit.Below w.heap.size w w' := by
  have := h.a hown w (· < w.heap.size) vals args (fun r _ _ => r = .bool true) { (default : Oper) with dst := some 0 } { tmps := #[undef], defers := [] }
    (fun a' w' => a'.tmps[0]? = some (.bool true) ∧ RowKit.Below w.heap.size w w') (fun _ _ _ => False) (fun _ h => h) hK hsz hrep hrun
    (fun v w' im' ρ' r F hk hres => by
      subst hk
      have := hres.rep.inv_bool
      subst this
      exact ⟨rfl, hres.below⟩)
  rw [hc] at this
  refine calls_mono (this : Calls P f vals w _) fun e w' he => ?_
  cases e with
  | returned v =>
    obtain ⟨h1, h2⟩ := he
    have : (#[undef].setIfInBounds 0 v)[0]? = some (Value.bool true) := h1
    simp at this
    exact ⟨by rw [this], h2⟩
  | panicked c => exact he.elim
  | outgrown => obtain ⟨_, _, h⟩ := he; exact h.elim
end Go.Eng
namespace Go.Eng
open Go Go.ChangeShapes
theorem has_of_ok {P : Program} {w : World} {base : Nat} {t e : TypeId} {a : Addr} {len cap : Nat} {r : Reach} (ht : P.underlying t = some (.slice e)) (hok : Value.okWide P w r base t (.slice (some a) len cap)) :
    len ≤ cap ∧ a.spot = none ∧ a.block < w.heap.size := by
  simp only [Value.okWide, ht, Cell.okWide, Cell.ok] at hok
  obtain ⟨h1, -, h2⟩ := hok
  obtain ⟨-, h3, row, cells, h4, -⟩ := h2
  refine ⟨h1, h3, ?_⟩
  unfold World.shape? at h4
  split at h4
  · rename_i h5; exact (Array.getElem?_eq_some_iff.1 h5).1
  · cases h4
theorem getD_get (zs : List Int) {i : Nat} (hi : i < zs.length) : zs.getD i 0 = zs[i] := by simp [List.getD, hi]
theorem add_addr (b off i : Nat) : Addr.add ⟨b, off, none⟩ i = ⟨b, off + i, none⟩ := by
  unfold Addr.add
  split
  · rename_i h; subst h; rfl
  · rfl
theorem rep_bytes {H : Type} {enc : TypeId × Value → H} {P : Program} {w : World} {base base' : Nat} {r : Reach} {held : Bool} {fuel : Nat} {t e : TypeId} {v : Value} {x : DataW H × List MemPlace}
    (ht : P.underlying t = some (.slice e)) (he : P.underlying e = some (.int .u8)) (hc : P.cellsOf e = 1) (hok : Value.okWide P w r base t v)
    (h : DataW.trod enc P w base' (fun _ => true) held fuel t v.cells.toList = some x) : ∃ xs : List UInt8, Rep w (· < w.heap.size) noIds v (.sl 0 xs) := by
  obtain ⟨a, len, cap, rfl⟩ := Go.WideShapes.okWide_slice ht hok
  rcases open_ints ht he hc h with ⟨hcs, _⟩ | ⟨y, l, c, zs, hcs, _, hl, hm, hz, _, hcell, hwz⟩
  · simp [Value.cells] at hcs
    obtain ⟨rfl, rfl, rfl⟩ := hcs
    exact ⟨[], .sl0⟩
  · simp [Value.cells] at hcs
    obtain ⟨rfl, rfl, rfl⟩ := hcs
    obtain ⟨h1, h2, h3⟩ := has_of_ok ht hok
    obtain ⟨b, off, spot⟩ := y
    dsimp only at h2 h3
    subst h2
    have hz : zs.length = cap := by simpa using hz
    have hw : ∀ i, i < zs.length → 0 ≤ zs.getD i 0 ∧ zs.getD i 0 ≤ 255 := fun i hi => by
      have := hwz (zs.getD i 0) (by rw [getD_get zs hi]; exact List.getElem_mem hi)
      simpa [Lit.wf, IntKind.min, IntKind.max, IntKind.signed, IntKind.bits] using this
    refine ⟨(zs.take len).map fun n => UInt8.ofNat n.toNat, .sl (c := 0) h3 (by simp; omega) h1 hm (fun i _ => .int .u8 (zs.getD i 0)) (fun i j hi hj => ?_) (fun _ _ _ _ => rfl) (fun i j x hx hj => ?_)⟩
    · have hj : j = 0 := by simpa [szOf] using hj
      subst hj
      simp only [List.length_map, List.length_take] at hi
      have := hcell i (by omega)
      rw [add_addr] at this
      simpa [szOf] using this
    · have hj : j = 0 := by simpa [szOf] using hj
      subst hj
      rw [List.getElem?_map] at hx
      have hi : i < len ∧ i < zs.length := by
        rcases Nat.lt_or_ge i (zs.take len).length with h | h
        · simp at h; omega
        · rw [List.getElem?_eq_none h] at hx; cases hx
      rw [List.getElem?_take, if_pos hi.1, List.getElem?_eq_getElem hi.2] at hx
      simp only [Option.map_some, Option.some.injEq] at hx
      subst hx
      have h0 := hw i hi.2
      rw [getD_get zs hi.2] at h0
      rw [getD_get zs hi.2]
      show Rep w _ noIds (.int .u8 zs[i]) (.int .u8 ((UInt8.ofNat zs[i].toNat).toNat : Int))
      have hk : kwf .u8 zs[i] := by simpa [kwf, IntKind.min, IntKind.max, IntKind.signed, IntKind.bits] using h0
      rw [kwf_u8 hk]
      exact .int hk
theorem rep_ints {H : Type} {enc : TypeId × Value → H} {P : Program} {w : World} {base base' : Nat} {r : Reach} {held : Bool} {fuel : Nat} {t e : TypeId} {v : Value} {x : DataW H × List MemPlace}
    (ht : P.underlying t = some (.slice e)) (he : P.underlying e = some (.int .i64)) (hc : P.cellsOf e = 1) (hok : Value.okWide P w r base t v)
    (h : DataW.trod enc P w base' (fun _ => true) held fuel t v.cells.toList = some x) : ∃ xs : List Int, Rep w (· < w.heap.size) noIds v (.sl 1 xs) := by
  obtain ⟨a, len, cap, rfl⟩ := Go.WideShapes.okWide_slice ht hok
  rcases open_ints ht he hc h with ⟨hcs, _⟩ | ⟨y, l, c, zs, hcs, _, hl, hm, hz, _, hcell, hwz⟩
  · simp [Value.cells] at hcs
    obtain ⟨rfl, rfl, rfl⟩ := hcs
    exact ⟨[], .sl0⟩
  · simp [Value.cells] at hcs
    obtain ⟨rfl, rfl, rfl⟩ := hcs
    obtain ⟨h1, h2, h3⟩ := has_of_ok ht hok
    obtain ⟨b, off, spot⟩ := y
    dsimp only at h2 h3
    subst h2
    have hz : zs.length = cap := by simpa using hz
    have hw : ∀ i, i < zs.length → kwf .i64 (zs.getD i 0) := fun i hi => by
      have := hwz (zs.getD i 0) (by rw [getD_get zs hi]; exact List.getElem_mem hi)
      simpa [Lit.wf, kwf, IntKind.min, IntKind.max, IntKind.signed, IntKind.bits] using this
    refine ⟨zs.take len, .sl (c := 1) h3 (by simp; omega) h1 hm (fun i _ => .int .i64 (zs.getD i 0)) (fun i j hi hj => ?_) (fun _ _ _ _ => rfl) (fun i j x hx hj => ?_)⟩
    · have hj : j = 0 := by simpa [szOf] using hj
      subst hj
      simp only [List.length_take] at hi
      have := hcell i (by omega)
      rw [add_addr] at this
      simpa [szOf] using this
    · have hj : j = 0 := by simpa [szOf] using hj
      subst hj
      have hi : i < len ∧ i < zs.length := by
        rcases Nat.lt_or_ge i (zs.take len).length with h | h
        · simp at h; omega
        · rw [List.getElem?_eq_none h] at hx; cases hx
      rw [List.getElem?_take, if_pos hi.1, List.getElem?_eq_getElem hi.2] at hx
      simp only [Option.some.injEq] at hx
      subst hx
      have h0 := hw i hi.2
      rw [getD_get zs hi.2] at h0
      rw [getD_get zs hi.2]
      show Rep w _ noIds (.int .i64 zs[i]) (.int .i64 zs[i])
      exact .int h0
def bval : Value → Bool
  | .bool b => b
  | _ => false
theorem rep_bools {H : Type} {enc : TypeId × Value → H} {P : Program} {w : World} {base base' : Nat} {r : Reach} {held : Bool} {fuel : Nat} {t e : TypeId} {v : Value} {x : DataW H × List MemPlace}
    (ht : P.underlying t = some (.slice e)) (he : P.underlying e = some .bool) (hc : P.cellsOf e = 1) (hok : Value.okWide P w r base t v)
    (h : DataW.trod enc P w base' (fun _ => true) held fuel t v.cells.toList = some x) : ∃ xs : List Bool, Rep w (· < w.heap.size) noIds v (.sl 4 xs) := by
  obtain ⟨a, len, cap, rfl⟩ := Go.WideShapes.okWide_slice ht hok
  rcases Go.Deep.open_slice1 ht hc h with ⟨hcs, _⟩ | ⟨y, l, c, m, n, V, D, Pl, hcs, _, hl, hm, hmm, _, hV⟩
  · simp [Value.cells] at hcs
    obtain ⟨rfl, rfl, rfl⟩ := hcs
    exact ⟨[], .sl0⟩
  · simp [Value.cells] at hcs
    obtain ⟨rfl, rfl, rfl⟩ := hcs
    obtain ⟨h1, h2, h3⟩ := has_of_ok ht hok
    obtain ⟨b, off, spot⟩ := y
    dsimp only at h2 h3
    subst h2
    have hmm : m = cap := by simpa using hmm
    have hb : ∀ i, i < m → V i = .bool (bval (V i)) := fun i hi => by
      obtain ⟨b', hb', -⟩ := DataW.trod_bool he (hV i hi).2
      have : V i = .bool b' := by simpa using hb'
      rw [this]; rfl
    refine ⟨(List.range len).map fun i => bval (V i), .sl (c := 4) h3 (by simp) h1 hm (fun i _ => .bool (bval (V i))) (fun i j hi hj => ?_) (fun _ _ _ _ => rfl) (fun i j x hx hj => ?_)⟩
    · have hj : j = 0 := by simpa [szOf] using hj
      subst hj
      simp only [List.length_map, List.length_range] at hi
      have := (hV i (by omega)).1
      rw [add_addr, hb i (by omega)] at this
      simpa [szOf] using this
    · have hj : j = 0 := by simpa [szOf] using hj
      subst hj
      rw [List.getElem?_map] at hx
      have hi : i < len := by
        rcases Nat.lt_or_ge i len with h | h
        · exact h
        · rw [List.getElem?_eq_none (by simpa using h)] at hx; cases hx
      rw [List.getElem?_range hi] at hx
      simp only [Option.map_some, Option.some.injEq] at hx
      subst hx
      exact .bool
theorem arr1 {α : Type} {cs : Array α} (h : cs.size = 1) : ∃ a, cs = #[a] := by
  rcases cs with ⟨l⟩
  match l, h with
  | [a], _ => exact ⟨a, rfl⟩
theorem arr2 {α : Type} {cs : Array α} (h : cs.size = 2) : ∃ a b, cs = #[a, b] := by
  rcases cs with ⟨l⟩
  match l, h with
  | [a, b], _ => exact ⟨a, b, rfl⟩
theorem arr3 {α : Type} {cs : Array α} (h : cs.size = 3) : ∃ a b c, cs = #[a, b, c] := by
  rcases cs with ⟨l⟩
  match l, h with
  | [a, b, c], _ => exact ⟨a, b, c, rfl⟩
theorem arr4 {α : Type} {cs : Array α} (h : cs.size = 4) : ∃ a b c d, cs = #[a, b, c, d] := by
  rcases cs with ⟨l⟩
  match l, h with
  | [a, b, c, d], _ => exact ⟨a, b, c, d, rfl⟩
theorem arr5 {α : Type} {cs : Array α} (h : cs.size = 5) : ∃ a b c d e, cs = #[a, b, c, d, e] := by
  rcases cs with ⟨l⟩
  match l, h with
  | [a, b, c, d, e], _ => exact ⟨a, b, c, d, e, rfl⟩
theorem arr6 {α : Type} {cs : Array α} (h : cs.size = 6) : ∃ a b c d e f, cs = #[a, b, c, d, e, f] := by
  rcases cs with ⟨l⟩
  match l, h with
  | [a, b, c, d, e, f], _ => exact ⟨a, b, c, d, e, f, rfl⟩
theorem open_scal {H : Type} {enc : TypeId × Value → H} {P : Program} {w : World} {base base' : Nat} {r : Reach} {held : Bool} {fuel : Nat} {t : TypeId} {v : Value} {x : DataW H × List MemPlace} {fs : Array Field}
    (ht : P.underlying t = some (.struct fs)) (hn : P.cellsOf t = fs.size) (hs : (fs.toList.zipIdx.all fun x => decide (x.1.offset = x.2) && decide (P.cellsOf x.1.type = 1)) = true) (hok : Value.okWide P w r base t v)
    (h : DataW.trod enc P w base' (fun _ => true) held fuel t v.cells.toList = some x) :
    ∃ cs : Array Value, v = .agg cs ∧ cs.size = fs.size ∧ ∀ (i : Nat) (f : Field) (c : Value), fs[i]? = some f → cs[i]? = some c → ∃ n y, DataW.trod enc P w base' (fun _ => true) held n f.type [c] = some y := by
  obtain ⟨cs, rfl, hsz⟩ := Go.WideShapes.okWide_struct ht hok
  obtain ⟨xs, n, -, -, -, hlen, hf⟩ := DataW.trod_struct ht h
  refine ⟨cs, rfl, hsz.trans hn, fun i f c hi hc => ?_⟩
  have h1 := hf i f hi
  have hlt : i < fs.size := by
    rcases Nat.lt_or_ge i fs.size with h | h
    · exact h
    · rw [Array.getElem?_eq_none h] at hi; cases hi
  have h2 : f.offset = i ∧ P.cellsOf f.type = 1 := by
    have := List.all_eq_true.1 hs (f, i) (by
      rw [List.mem_iff_getElem?]
      exact ⟨i, by simpa using hi⟩)
    simpa using this
  rw [h2.1, h2.2] at h1
  have h3 : ((Value.agg cs).cells.toList.drop i).take 1 = [c] := by
    have e : (Value.agg cs).cells = cs := rfl
    rw [e]
    have hi2 : i < cs.toList.length := by simp; omega
    rw [List.drop_eq_getElem_cons hi2, List.take_succ_cons, List.take_zero]
    have : cs.toList[i]? = some c := by simpa using hc
    rw [List.getElem?_eq_getElem hi2] at this
    simpa using this
  rw [h3] at h1
  obtain ⟨y, hy⟩ : ∃ y, xs[i]? = some y := ⟨xs[i]'(by omega), List.getElem?_eq_getElem _⟩
  exact ⟨n, y, h1.trans hy⟩
end Go.Eng
namespace Go.Eng
open Go
def nilB : AV → AV
  | .nilsl => .sl 0 []
  | x => x
theorem nilB_rep {w : World} {im : Nat → Prop} {ρ : Ids} {v : Value} {x : AV} (h : Rep w im ρ v x) : Rep w im ρ v (nilB x) := by
  unfold nilB
  split
  · rw [h.inv_nilsl]; exact .sl0
  · exact h
theorem Holds.nil {P : Program} {f : FuncId} {s : Spec} (h : Holds P f s) (hown : s.own = [] := by rfl) : Holds P f { s with run := fun args B k => s.run (args.map nilB) B k } := by
  refine HoldsA.h ?_ hown
  intro w im vals args k o a next Q him hKc hlen hrep hrun hnext
  refine h.a hown w im vals (args.map nilB) k o a next Q him hKc (by simpa using hlen) (fun j v hj => ?_) hrun hnext
  rw [nth_map_dead rfl]
  exact nilB_rep (hrep j v hj)
end Go.Eng
