import Derived.Test.YtcnnbofjgmohaaaDoorLit
import Derived.Test.YtcnnbofjgmohaaaDoorProg
import Derived.Test.YtcnnbofjgmohaaaDoorRgQ
import Derived.WalkKit
import Derived.WalkSpells
namespace Go.Proofs.YtcnnbofjgmohaaaDoor
open Go Go.Eng Go.Proofs Go.RowKit
set_option linter.unusedVariables false
/-- The numbers of zero bits at the end. -/
def tzS : Eng.Spec := { ro := true, own := [], run := fun args _ k => match args with
  | [.int .u32 x] => inK .u32 x ∧ ∀ r : Int, r = ((Lib.ctz 32 x.toNat : Nat) : Int) → (0 ≤ r ∧ r ≤ 32) → k (.int .i64 r) [] []
  | _ => False }
def tzL : Eng.Spec := { ro := true, own := [], run := fun args _ k => match args with
  | [.int .u32 x] => andB [dp (0 ≤ x ∧ x ≤ 4294967295)] (forceI ((Lib.ctz 32 x.toNat : Nat) : Int) fun r => k (.int .i64 r) [] [])
  | _ => False }
set_option maxHeartbeats 2000000 in
theorem tz_core (x k idx : Nat) (w : World) (hx0 : ((x : Int) == 0) = false)
    (key : bits BinOp.and IntKind.u32 (x : Int) (-(x : Int) % 4294967296) * 125613361 % 4294967296 / 134217728 = (idx : Int))
    (hi : idx < 32) (hk : k < 32) (hcell : w.cell? ⟨0, idx, none⟩ = some (.int .u8 k)) :
    Calls Tryd.prog 25 #[.int .u32 x] w fun e w' => e = .returned (.int .i64 k) ∧ w' = w := by
  go_enter Tryd.func25, Tryd.ntmps25
  go_wp2_with (simp only [key])
  go_ret
  exact ⟨rfl, rfl⟩
theorem tz_zero (w : World) : Calls Tryd.prog 25 #[.int .u32 0] w fun e w' => e = .returned (.int .i64 32) ∧ w' = w := by
  go_enter Tryd.func25, Tryd.ntmps25
  go_wp2
  go_ret
  exact ⟨rfl, rfl⟩
theorem tz_key (x a : Nat) (hx : x < 4294967296) (hx0 : x ≠ 0) (hlow : x &&& (4294967296 - x) = a) :
    bits BinOp.and IntKind.u32 (x : Int) (-(x : Int) % 4294967296) * 125613361 % 4294967296 / 134217728 = ((a * 125613361 % 4294967296 / 134217728 : Nat) : Int) := by
  have e1 : -(x : Int) % 4294967296 = ((4294967296 - x : Nat) : Int) := by omega
  rw [e1, Rg.u32_and x _ hx (by omega), hlow]
  omega
theorem tz_all (x : Nat) (hx : x < 4294967296) (w : World) (im : Nat → Prop) (hK : Kc w im) :
    Calls Tryd.prog 25 #[.int .u32 x] w fun e w' => e = .returned (.int .i64 (Lib.ctz 32 x)) ∧ w' = w := by
  by_cases hx0 : x = 0
  · subst hx0
    exact tz_zero w
  · obtain ⟨hlow, hk⟩ := Lib.lowest_bit 32 x hx0 hx
    obtain ⟨hi, htab⟩ := Lib.deBruijn32_at _ hk
    have hcell := hK.2 _ hi
    rw [htab] at hcell
    exact tz_core x _ _ w (by simp; omega) (tz_key x _ hx hx0 hlow) hi hk hcell
theorem tz_ok : Holds Tryd.prog 25 tzS := by
  refine HoldsA.h ?_ rfl
  intro w im vals args k o a next Q him hKc hlen hrep hrun hnext
  unfold tzS at hrun
  dsimp only at hrun
  split at hrun
  · rename_i x
    obtain ⟨hx, hk⟩ := hrun
    have hx : 0 ≤ x ∧ x ≤ 4294967295 := hx
    obtain ⟨u, rfl⟩ : ∃ u, vals = #[u] := by
      match vals, hlen with
      | ⟨[u]⟩, _ => exact ⟨u, rfl⟩
    obtain ⟨rfl, -⟩ := (hrep 0 u rfl).inv_int
    obtain ⟨x, rfl⟩ := Int.eq_ofNat_of_zero_le hx.1
    rw [Tryd.call25]
    refine calls_mono (tz_all x (by omega) w im hKc) fun e w' he => ?_
    obtain ⟨rfl, rfl⟩ := he
    have hb : Lib.ctz 32 x ≤ 32 := by
      by_cases h0 : x = 0
      · subst h0; decide
      · obtain ⟨m, -, h⟩ := Rg.ctz_spec h0 (by omega); omega
    exact hnext _ _ (fun b => (true : Bool) = false ∧ im b) noIds (.int .i64 (Lib.ctz 32 x : Nat)) [] (hk _ (by rw [Int.toNat_natCast]) (by omega)) { below := RowKit.Below.refl _ _, imold := fun e b hb => ⟨e, hb⟩, imnew := fun b hb => .inl hb, dom := fun _ _ => rfl, blk := fun j b hj => by simp at hj, inj := fun _ _ _ _ _ hi => by simp [noIds] at hi, notim := fun _ _ _ hi => by simp [noIds] at hi, fresh := fun _ _ _ hi => by simp [noIds] at hi, rep := .int (by show inK .i64 _; exact ⟨by omega, by omega⟩) }
  · exact hrun.elim
theorem tz_lit : Holds Tryd.prog 25 tzL := by
  refine HoldsA.h ?_ rfl
  intro w im vals args k o a next Q him hKc hlen hrep hrun hnext
  refine tz_ok.a rfl w im vals args k o a next Q him hKc hlen hrep ?_ hnext
  unfold tzL at hrun
  dsimp only at hrun
  split at hrun
  · rename_i x
    obtain ⟨h1, h2⟩ := andE_ok (lit := true) (l := [dp (0 ≤ x ∧ x ≤ 4294967295)]) hrun
    obtain ⟨b1, -⟩ := h1
    have h3 := forceI_ok (k := fun r => k (.int .i64 r) [] []) h2
    exact ⟨b1, fun r hr _ => by subst hr; exact h3⟩
  · exact hrun.elim
end Go.Proofs.YtcnnbofjgmohaaaDoor
