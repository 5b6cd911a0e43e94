import Derived.Test.YtilbglkpbjamfaaFrR
import Derived.Test.YtilbglkpbjamfaaFrS
import Derived.Test.YtilbglkpbjamfaaEngZ
namespace Go.Proofs.Ytilbglkpbjamfaa
open Go Go.Eng Go.Rw Go.Fr Go.Proofs
set_option linter.unusedVariables false
def rputLoops (n w : Int) : List Nat → Nat → Option LoopAnn := fun _ r => match r with
  | 5 => some { V := Nat × List UInt8 × Int, st := fun v => ⟨mk 30 [(0, .int .u64 v.2.2), (1, .int .i64 w), (6, .row 0 7777 0 v.1), (7, .int .i64 v.1)], [], [(7777, .row 0 v.2.1)]⟩,
                I := fun v => v.1 ≤ w.toNat ∧ v.2.1 = putL n.toNat v.1 ∧ v.2.1.length = v.1 ∧ v.2.2 = ((n.toNat / 256 ^ v.1 : Nat) : Int) ∧ (0 ≤ v.2.2 ∧ v.2.2 ≤ n), μ := fun v => w.toNat - v.1, boxes := [(6, 7777, 0)] }
  | _ => none
def rgetLoops (xs : List UInt8) : List Nat → Nat → Option LoopAnn := fun _ r => match r with
  | 5 => some { V := Int × Int, st := fun v => ⟨mk 30 [(0, .sl 0 xs), (4, .int .u64 v.2), (5, .int .i64 v.1)], [], []⟩,
                I := fun v => (-1 ≤ v.1 ∧ v.1 < xs.length) ∧ (1 ≤ xs.length ∧ xs.length ≤ 8) ∧ v.2 = (getL (xs.drop (v.1 + 1).toNat) : Int), μ := fun v => (v.1 + 1).toNat }
  | _ => none
theorem bit_odd {r : Nat} (h : r < 4294967296) {n17 n20 : Int} (h17 : n17 = (r : Int).tmod 2) (h20 : n20 = ((r : Int).tdiv 2) % 4294967296) : (n17 = 1 → ((n20.toNat ^^^ 3988292384 : Nat) : Int) = (bit r : Nat)) ∧ (n17 ≠ 1 → n20 = (bit r : Nat)) := by
  have u : (r : Int).tmod 2 = (r : Int) % 2 := Int.tmod_eq_emod_of_nonneg (by omega)
  have t : (r : Int).tdiv 2 = (r : Int) / 2 := Int.tdiv_eq_ediv_of_nonneg (by omega)
  rw [u] at h17
  rw [t] at h20
  have e : n20 = (r / 2 : Nat) := by omega
  refine ⟨fun c => ?_, fun c => ?_⟩
  · unfold bit
    rw [if_pos (by omega), e, Int.toNat_natCast]
  · unfold bit
    rw [if_neg (by omega), Nat.xor_zero, e]
def rsumLoops (xs : List UInt8) : List Nat → Nat → Option LoopAnn := fun s r => match r with
  | 3 => some { V := Nat × Nat, st := fun v => ⟨mk 34 [(0, .sl 0 xs), (3, .int .u32 v.2), (4, .int .i64 v.1)], [], []⟩, I := fun v => v.1 ≤ xs.length ∧ v.2 = crc 4294967295 (xs.take v.1) ∧ v.2 < 4294967296, μ := fun v => xs.length - v.1, key := fun v => v.1 }
  | 7 => some { V := Nat × Nat, st := fun v => ⟨mk 34 [(0, .sl 0 xs), (3, .int .u32 v.1), (4, .int .i64 (s.headD 0 : Nat)), (5, .int .i64 v.2)], [], []⟩, I := fun v => v.2 ≤ 8 ∧ v.1 = bitK v.2 (crc 4294967295 (xs.take (s.headD 0)) ^^^ (xs.getD (s.headD 0) 0).toNat) ∧ v.1 < 4294967296, μ := fun v => 8 - v.2 }
  | _ => none
def rstuffLoops (b : List UInt8) : List Nat → Nat → Option LoopAnn := fun _ r => match r with
  | 3 => some { V := Nat × Nat × List UInt8, st := fun v => ⟨mk 39 [(0, .sl 0 b), (3, .row 0 7777 0 v.2.1), (4, .int .i64 v.1)], [], [(7777, .row 0 v.2.2)]⟩, I := fun v => v.1 ≤ b.length ∧ v.2.2 = stf (b.take v.1) ∧ v.2.2.length = v.2.1 ∧ v.2.1 ≤ 2 * v.1 ∧ b.length ≤ 1000000, μ := fun v => b.length - v.1, boxes := [(3, 7777, 0)] }
  | _ => none
theorem add32 {x : UInt8} {n26 n29 : Int} (h : n26 = (x.toNat : Int)) (h2 : n29 = (n26 + 32) % 256) : UInt8.ofNat n29.toNat = x + 32 := by
  apply UInt8.toNat_inj.1
  rw [UInt8.toNat_add, UInt8.toNat_ofNat']
  show n29.toNat % 256 = (x.toNat + 32) % 256
  omega
def rbareLoops (b : List UInt8) : List Nat → Nat → Option LoopAnn := fun _ r => match r with
  | 3 => some { V := Nat × Nat × List UInt8, st := fun v => ⟨mk 65 [(0, .sl 0 b), (4, .row 0 7777 0 v.2.1), (5, .int .i64 v.1)], [], [(7777, .row 0 v.2.2)]⟩, I := fun v => v.1 ≤ b.length ∧ v.2.2 ++ rb (b.drop v.1) = rb b ∧ v.2.2.length = v.2.1 ∧ v.2.1 ≤ v.1 ∧ b.length ≤ 1000000, μ := fun v => b.length - v.1, boxes := [(4, 7777, 0)] }
  | _ => none
def fourS : Eng.Spec := { ro := true, own := [], run := fun args _ k => match args with
  | [.int .u32 n] => inK .u32 n ∧ ∀ (ys : List UInt8) (q : Nat), ys = putL n.toNat 4 → ys.length = q → k (.row 0 0 0 q) [] [.row 0 ys]
  | _ => False }
def iE (bo : List UInt8) : Int := if 512 < bo.length then 3 else 0
def iO (kd sq : Int) (bo : List UInt8) : List UInt8 := if 512 < bo.length then [] else ins kd sq bo
/-- Inside, as one law for what it answers. -/
def insideD : Eng.Spec := { ro := true, own := [], run := fun args _ k => match aggB args with
  | [.agg [.int .u8 kd, .int .u32 sq, .sl 0 bo]] => inK .u8 kd ∧ inK .u32 sq ∧ ∀ (e : Int) (ys : List UInt8) (n : Nat), e = iE bo → ys = iO kd sq bo → ys.length = n → k (.tup [.row 0 0 0 n, .int .i64 e]) [] [.row 0 ys]
  | _ => False }
theorem inside_up {f : FuncId} (hf : Holds Try.prog f insideS) : Holds Try.prog f insideD := by
  refine (hf.argUp aggB aggB_len aggB_rep).nlAt 0 0 rfl rfl rfl fun args k h => ?_
  show insideS.run (aggB args) [] _
  unfold insideD at h
  dsimp only at h
  generalize aggB args = l at h
  split at h
  · rename_i kd sq bo
    obtain ⟨h1, h2, h3⟩ := h
    refine ⟨h1, h2, fun hb => ?_, fun hb ys n hy hn => ?_⟩
    · exact h3 3 [] 0 (by unfold iE; rw [if_pos hb]) (by unfold iO; rw [if_pos hb]) rfl
    · exact h3 0 ys n (by unfold iE; rw [if_neg (by omega)]) (by unfold iO; rw [if_neg (by omega)]; exact hy) hn
  · exact h.elim
theorem write_up {f : FuncId} (hf : Holds Try.prog f writeS) : Holds Try.prog f writeD := by
  refine (hf.argUp aggB aggB_len aggB_rep).nlAt 0 0 rfl rfl rfl fun args k h => ?_
  show writeS.run (aggB args) [] _
  unfold writeD at h
  dsimp only at h
  generalize aggB args = l at h
  split at h
  · rename_i kd sq bo
    obtain ⟨h1, h2, h3⟩ := h
    refine ⟨h1, h2, fun hb => ?_, fun hb ys n hy hn => ?_⟩
    · exact h3 3 [] 0 (by unfold wE; rw [if_pos hb]) (by unfold wO; rw [if_pos hb]) rfl
    · exact h3 0 ys n (by unfold wE; rw [if_neg (by omega)]) (by unfold wO; rw [if_neg (by omega)]; exact hy) hn
  · exact h.elim
theorem bare_up {f : FuncId} (hf : Holds Try.prog f bareS) : Holds Try.prog f bareD := hf.nlAt 0 0 rfl rfl rfl fun args k h => by
  unfold bareD at h
  dsimp only at h
  split at h
  · obtain ⟨h1, h2⟩ := h
    refine ⟨h1, fun hb => ?_, fun o n hb hn => ?_⟩
    · exact h2 8 [] 0 (by unfold bE; rw [hb]; rfl) (by unfold bO; rw [hb]; rfl) rfl
    · exact h2 0 o n (by unfold bE; rw [hb]; rfl) (by unfold bO; rw [hb]; rfl) hn
  · exact h.elim
noncomputable def oE (b : List UInt8) : Int := open Classical in if okO b then 0 else 8
noncomputable def oKD (b : List UInt8) : Int := open Classical in if okO b then oK b else 0
noncomputable def oSD (b : List UInt8) : Int := open Classical in if okO b then oS b else 0
noncomputable def oBD (b : List UInt8) : List UInt8 := open Classical in if okO b then oB b else []
/-- Open, as one law for what it answers. -/
noncomputable def openE : Eng.Spec := { ro := true, own := [], run := fun args _ k => match args with
  | [.sl 0 b] => ∀ (e kd sq : Int) (bo : List UInt8) (n : Nat), e = oE b → kd = oKD b → sq = oSD b → bo = oBD b → bo.length = n → inK .u8 kd → inK .u32 sq → k (.tup [.agg [.int .u8 kd, .int .u32 sq, .row 0 0 0 n], .int .i64 e]) [] [.row 0 bo]
  | _ => False }
theorem open_up {f : FuncId} (hf : Holds Try.prog f openS) : Holds Try.prog f openE := hf.nlAgg 0 0 2 rfl rfl rfl fun args k h => by
  unfold openE at h
  dsimp only at h
  split at h
  · refine ⟨fun hb => ?_, fun hb kd sq bo n h1 h2 h3 h4 h5 h6 => ?_⟩
    · exact h 8 0 0 [] 0 (by unfold oE; rw [if_neg hb]) (by unfold oKD; rw [if_neg hb]) (by unfold oSD; rw [if_neg hb]) (by unfold oBD; rw [if_neg hb]) rfl ⟨by decide, by decide⟩ ⟨by decide, by decide⟩
    · exact h 0 kd sq bo n (by unfold oE; rw [if_pos hb]) (by unfold oKD; rw [if_pos hb]; exact h1) (by unfold oSD; rw [if_pos hb]; exact h2) (by unfold oBD; rw [if_pos hb]; exact h3) h4 h5 h6
  · exact h.elim
def msgSameS : Eng.Spec := { ro := true, own := [], run := fun args _ k => match args with
  | [.agg [.int .u8 k1, .int .u32 s1, .sl 0 a], .agg [.int .u8 k2, .int .u32 s2, .sl 0 b]] => inK .u8 k1 ∧ inK .u32 s1 ∧ inK .u8 k2 ∧ inK .u32 s2 ∧ ∀ r : Bool, (r = true ↔ k1 = k2 ∧ s1 = s2 ∧ a = b) → k (.bool r) [] []
  | _ => False }
def U1 : Tab := [(39, putS)]
def U2 : Tab := [(32, fourS), (33, sumS)]
def U3 : Tab := [(20, stuffS), (11, insideS)]
def U4 : Tab := [(36, getS), (11, insideD)]
end Go.Proofs.Ytilbglkpbjamfaa

