import Derived.Test.YtcdflgfhkohldaaEngZ
import Derived.Test.YtcdflgfhkohldaaProg
import Derived.Lib.MakeNoZero
namespace Go.Proofs.Ytcdflgfhkohldaa
open Go Go.Eng Go.Proofs Go.Lib
set_option linter.unusedVariables false
/-- So many bytes, whatever they are. -/
def mnzS : Eng.Spec := { ro := true, own := [], run := fun args _ k => match args with
  | [.int .i64 n] => (0 ≤ n ∧ n ≤ 1000000) ∧ ∀ (xs : List UInt8) (q : Nat), (q : Int) = n → xs.length = q → k (.row 0 0 0 q) [] [.row 0 xs]
  | _ => False }
def IsByte (v : Value) : Prop := ∃ x : Nat, x < 256 ∧ v = .int .u8 (x : Int)
theorem digits_byte : ∀ (n t : Nat) (acc : Array Value), (∀ v ∈ acc, IsByte v) → ∀ v ∈ Extern.BytealgMakeNoZero.digits n t acc, IsByte v
  | 0, _, _, h => h
  | n + 1, t, acc, h => by
    rw [Extern.BytealgMakeNoZero.digits]
    refine digits_byte n _ _ fun v hv => ?_
    rcases Array.mem_push.1 hv with hv | hv
    · exact h v hv
    · exact ⟨t % 256, Nat.mod_lt _ (by decide), hv⟩
theorem mnz_run {P : Program} (w : World) (ps : Array TypeId) (t e : TypeId) (ht : P.underlying t = some (.slice e)) (n : Nat) (hn : n ≤ 1000000) :
    ∃ cs : Array Value, (Extern.BytealgMakeNoZero.makeNoZero ps #[t] #[.int .i64 n]).run P w = .ok (.slice (some ⟨w.heap.size, 0, none⟩) n cs.size) (w.drew.drew.alloc (.cells cs e)) ∧ n ≤ cs.size ∧ cs.size ≤ maxLen ∧ ∀ v ∈ cs, IsByte v := by
  refine ⟨Extern.BytealgMakeNoZero.digits (grownCap w n 0 e) ((Question.extern "internal/bytealg.MakeNoZero.bytes" 0).cut (w.tape (w.drawn + 1) (.extern "internal/bytealg.MakeNoZero.bytes" 0))) #[], ?_, ?_, ?_, ?_⟩
  · refine (show _ = ((underlying t >>= ?f) : Sem Value).run P w from rfl).trans ?_
    have h1 : ¬ (n : Int) < 0 := by omega
    have h2 : ¬ (281474976710656 : Int) < (n : Int) := by omega
    simp [run_underlying ht, h1, h2, Question.forced, newRow, size_digits, grownCap]
  · rw [size_digits]
    simpa using grownCap_ge w n 0 e
  · rw [size_digits]
    simpa using grownCap_le_maxLen w n 0 e (by unfold maxLen; omega)
  · exact digits_byte _ _ _ fun v hv => by simp at hv
def byteOf : Value → UInt8
  | .int _ z => UInt8.ofNat z.toNat
  | _ => 0
set_option maxRecDepth 20000 in
theorem mnz_ok : Holds Try.prog 61 mnzS := by
  refine HoldsA.h ?_ rfl
  intro w im vals args k o a next Q him hKc hlen hrep hrun hnext
  unfold mnzS at hrun
  dsimp only at hrun
  split at hrun
  · rename_i n
    obtain ⟨hx, hk⟩ := hrun
    obtain ⟨u, rfl⟩ : ∃ u, vals = #[u] := by
      match vals, hlen with
      | ⟨[u]⟩, _ => exact ⟨u, rfl⟩
    obtain ⟨rfl, -⟩ := (hrep 0 u rfl).inv_int
    have hx0 : 0 ≤ n := hx.1
    have hx1 : n ≤ 1000000 := hx.2
    obtain ⟨m, hm⟩ : ∃ m : Nat, n = (m : Int) := ⟨n.toNat, by omega⟩
    subst hm
    have hm1 : m ≤ 1000000 := by omega
    obtain ⟨cs, hr, h1, h2, h3⟩ := mnz_run (P := Try.prog) w #[3] 32 5 (by kernel_rfl) m hm1
    rw [run_callFunc_extern Try.func61 (by kernel_rfl) (by kernel_rfl) (by kernel_rfl) (e := Extern.BytealgMakeNoZero.makeNoZero #[3] #[32]) (by kernel_rfl), hr]
    show next _ _
    have hxl : ((cs.toList.take m).map byteOf).length = m := by rw [List.length_map, List.length_take, Array.length_toList]; omega
    refine hnext _ _ (fun b => (true : Bool) = false ∧ im b) (fun j => if j = 0 then some (some w.heap.size, m) else none) (.row 0 0 0 m) [.row 0 ((cs.toList.take m).map byteOf)] (hk _ m rfl hxl) ?_
    exact {
      below := ((RowKit.Below.refl _ w).drew.drew).alloc (Nat.le_refl _) _
      imold := fun e => by cases e
      imnew := fun b hb => .inl hb
      dom := fun j hj => by
        have : j ≠ 0 := by rintro rfl; simp at hj
        rw [if_neg this]
      blk := fun j b hj => by
        cases j with
        | succ j => simp at hj
        | zero =>
          simp only [List.getElem?_cons_zero, Option.some.injEq] at hj
          subst hj
          refine ⟨(some w.heap.size, m), if_pos rfl, hxl.symm, .inr ⟨w.heap.size, cs, 5, cs.size, rfl, new_get w.drew.drew _, by show cs.size = cs.size * 1; omega, by rw [hxl]; exact h1, h2, fun j v hv => ?_, fun i j x v hi hj hv => ?_⟩⟩
          · obtain ⟨y, -, rfl⟩ := h3 v (Array.mem_of_getElem? hv)
            rfl
          · have hj0 : j = 0 := by have : szOf 0 = 1 := rfl; omega
            subst hj0
            have hv : cs[i]? = some v := by have e : i * szOf 0 + 0 = i := by show i * 1 + 0 = i; omega
                                            rw [e] at hv; exact hv
            obtain ⟨y, hy, rfl⟩ := h3 v (Array.mem_of_getElem? hv)
            rw [List.getElem?_map, List.getElem?_take] at hi
            split at hi
            · have e2 : cs.toList[i]? = some (.int .u8 (y : Int)) := by simpa using hv
              rw [e2] at hi
              simp only [Option.map_some, Option.some.injEq] at hi
              subst hi
              have e3 : ((byteOf (.int .u8 (y : Int))).toNat : Int) = (y : Int) := by
                show ((UInt8.ofNat (y : Int).toNat).toNat : Int) = _
                rw [Int.toNat_natCast]
                have : (UInt8.ofNat y).toNat = y := by rw [UInt8.toNat_ofNat']; exact Nat.mod_eq_of_lt hy
                rw [this]
              show Rep _ _ _ (Value.int .u8 (y : Int)) (.int .u8 ((byteOf (.int .u8 (y : Int))).toNat : Int))
              rw [e3]
              exact .int ⟨by show (0 : Int) ≤ _; omega, by show _ ≤ (255 : Int); omega⟩
            · simp at hi
      inj := fun i j b m m' hi hj => by
        have h1 : i = 0 := by
          by_cases c : i = 0
          · exact c
          · rw [if_neg c] at hi; cases hi
        have h2 : j = 0 := by
          by_cases c : j = 0
          · exact c
          · rw [if_neg c] at hj; cases hj
        rw [h1, h2]
      notim := fun _ _ _ _ hb => by cases hb.1
      fresh := fun i b m hi => by
        by_cases c : i = 0
        · rw [if_pos c] at hi
          simp only [Option.some.injEq, Prod.mk.injEq] at hi
          omega
        · rw [if_neg c] at hi; cases hi
      rep := .row (x := 0) (m := m) (o := 0) (e := 5) (if_pos rfl) (by omega) (by omega) h1 h2 (by
        have := new_shape w.drew.drew cs 5
        show (w.drew.drew.alloc (.cells cs 5)).shape? w.drew.drew.heap.size = _
        rw [this]
        show some (5, cs.size) = some (5, (0 + cs.size + 0) * 1)
        rw [Nat.zero_add, Nat.add_zero, Nat.mul_one]) }
  · exact hrun.elim
end Go.Proofs.Ytcdflgfhkohldaa

