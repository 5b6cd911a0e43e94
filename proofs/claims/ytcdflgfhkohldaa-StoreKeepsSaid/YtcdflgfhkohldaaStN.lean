import Derived.Test.YtcdflgfhkohldaaStL
import Derived.Test.YtcdflgfhkohldaaStP
import Derived.Test.YtcdflgfhkohldaaEngU
namespace Go.Proofs.Ytcdflgfhkohldaa
open Go Go.Eng Go.Rw Go.Lk Go.Proofs
open Go.Bk hiding take_step drop_step set_mid
open Go.St hiding take_step
set_option linter.unusedVariables false
def partsS : Eng.Spec := { ro := false, own := [], run := fun args _ k => match args with
  | [.sl 0 b] => b.length ≤ 1000000 ∧ (∀ (l : List Plan) (n : Nat), PR b 0 l → l.length = n → k (.tup [.row 10 0 0 n, .int .i64 0]) [] [.row 10 l]) ∧ (PR b 8 [] → k (.tup [.nilsl, .int .i64 8]) [] [])
  | _ => False }
def partsT : Eng.Spec := { ro := false, own := [], run := fun args _ k => match args with
  | [.sl 0 b] => b.length ≤ 1000000 ∧ ∀ (e : Int) (l : List Plan), PR b e l → (e = 0 ∨ e = 8) → l.length ≤ 8 → k (.tup [.sl 10 l, .int .i64 e]) [] []
  | _ => False }
theorem parts_up {f : FuncId} (hf : Holds Try.prog f partsS) : Holds Try.prog f partsT := by
  have h2 := Holds.fzA (t := { ro := false, own := [], run := fun args B k => partsS.run args B (fzA k) }) hf rfl rfl rfl fun _ _ h => h
  refine h2.up (tupC 0 10) (fun _ _ _ _ _ h => tupC_rep h) rfl rfl rfl fun args k h => ?_
  show partsS.run args [] _
  unfold partsT at h
  dsimp only at h
  split at h
  · refine ⟨h.1, fun l n hp hn => ?_, fun hp => ?_⟩
    · show k (.tup [.sl 10 ((l.drop 0).take n), .int .i64 0]) [] []
      rw [List.drop_zero, ← hn, List.take_length]
      exact h.2 0 l hp (.inl rfl) hp.len
    · show k (.tup [.sl 10 [], .int .i64 8]) [] []
      exact h.2 8 [] hp (.inr rfl) hp.len
  · exact h.elim
def mayS : Eng.Spec := { ro := true, own := [], run := fun args _ k => match args with
  | [.agg [.int .i64 g, .int .u8 m, .sl 10 ps]] => (0 ≤ m ∧ m ≤ 255) ∧ ∀ e : Int, e = mayE g m ps → (e = 0 ∨ e = 4 ∨ e = 170 ∨ e = 190) → k (.int .i64 e) [] []
  | _ => False }
def yngB (yb : Nat) (l : List UInt8) : YB := ⟨yb, l⟩
structure YAll (yb : Nat) (l : List YB) : Prop where
  h : ∀ z, z ∈ l → z.nb = yb
theorem YAll.app {yb n : Nat} {l ys : List YB} {x : List UInt8} (h : YAll yb l) (e : ys = List.take n l ++ List.take 1 (List.drop 0 [⟨yb, x⟩])) : YAll yb ys := ⟨fun z hz => by
  subst e
  rcases List.mem_append.1 hz with h1 | h1
  · exact h.h z (List.mem_of_mem_take h1)
  · simp at h1; rw [h1]⟩
theorem YAll.dat {yb n : Nat} {l ys : List YB} {x : List UInt8} (e : ys = List.take n l ++ List.take 1 (List.drop 0 [⟨yb, x⟩])) : ys.map YB.data = List.take n (l.map YB.data) ++ List.take 1 (List.drop 0 [x]) := by
  subst e; simp [List.map_take]
theorem YAll.eq {yb : Nat} {l : List YB} (h : YAll yb l) : l = (l.map YB.data).map (yngB yb) := by
  rw [List.map_map]
  conv => lhs; rw [← List.map_id l]
  exact List.map_congr_left fun z hz => by show z = ⟨yb, z.data⟩; rw [← h.h z hz]
def tyY : Nat → Nat := fun t => match tyC t with
  | 6 => 14
  | 9 => 13
  | n => n
noncomputable def mkEnvY (yb : Nat) (T : Tab) : Env := mkY Try.prog tyY (yb, none) T
noncomputable def mkEnvW (yb : Nat) (T : Tab) : Env := mkY Try.prog tyC (0, some yb) T
def md (l : List (Nat × Nat)) (i : Nat) : Nat := match l with
  | [] => 0
  | (j, m) :: r => match Nat.beq i j with
    | true => m
    | false => md r i
def blocksY (yb : Nat) : Eng.Spec := { ro := false, own := [], run := fun args _ k => match args with
  | [.agg [.int .i64 g, .int .u8 m, .sl 10 ps], .int .i64 n] => ((-9223372036854775808 ≤ g ∧ g ≤ 9223372036854775807) ∧ 0 ≤ m ∧ m ≤ 255) ∧ (∀ e : Int, e = blkE g m ps n → e ≠ 0 → (0 ≤ e ∧ e ≤ 190) → k (.tup [.nilsl, .int .i64 e]) [] []) ∧ (blkE g m ps n = 0 → ∀ (zs : List YB) (q : Nat), zs.map YB.data = blkO g m ps n → YAll yb zs → zs.length = q → k (.tup [.row 14 0 0 q, .int .i64 0]) [] [.row 14 zs])
  | _ => False }
def datT : AV → AV
  | .tup [.sl 14 zs, b] => .tup [.sl 6 (zs.map YB.data), b]
  | x => x
theorem dat_rep {w : World} {im : Nat → Prop} {ρ : Ids} {v : Value} {zs : List YB} (h : Rep w im ρ v (.sl 14 zs)) : Rep w im ρ v (.sl 6 (zs.map YB.data)) := by
  cases h with
  | sl0 => exact .sl0
  | emp => exact .emp
  | sl hb hn hcap hm vals hcell hone hrep =>
    refine .sl hb (by simpa using hn) hcap hm vals (fun i j hi hj => hcell i j (by simpa using hi) hj) (fun i j hi hj => hone i j (by simpa using hi) hj) (fun i j x hx hj => ?_)
    rw [List.getElem?_map] at hx
    simp only [Option.map_eq_some_iff] at hx
    obtain ⟨y, hy, rfl⟩ := hx
    have := hrep i j y hy hj
    match j, hj with
    | 0, _ => exact (inv_both this).1
theorem datT_rep {w : World} {im : Nat → Prop} {ρ : Ids} {v : Value} {x : AV} (h : Rep w im ρ v x) : Rep w im ρ v (datT x) := by
  unfold datT
  split
  · obtain ⟨vs, rfl, h1, h3⟩ := h.inv_tup
    refine .tup (by simpa using h1) fun j v hj => ?_
    have := h3 j v hj
    match j with
    | 0 => exact dat_rep this
    | j + 1 => exact this
  · exact h
def blocksT : Eng.Spec := { ro := false, own := [], run := fun args _ k => match args with
  | [.agg [.int .i64 g, .int .u8 m, .sl 10 ps], .int .i64 n] => ((-9223372036854775808 ≤ g ∧ g ≤ 9223372036854775807) ∧ 0 ≤ m ∧ m ≤ 255) ∧ ∀ (e : Int) (bl : List (List UInt8)), e = blkE g m ps n → bl = blkO g m ps n → (0 ≤ e ∧ e ≤ 190) → (e = 0 → bl.length = n.toNat) → k (.tup [.sl 6 bl, .int .i64 e]) [] []
  | _ => False }
theorem blocks_up {f : FuncId} (hf : Holds Try.prog f (blocksY 0)) : Holds Try.prog f blocksT := by
  have h2 := Holds.fzA (t := { ro := false, own := [], run := fun args B k => (blocksY 0).run args B (fzA k) }) hf rfl rfl rfl fun _ _ h => h
  have h3 := h2.up (t := { ro := false, own := [], run := fun args B k => (blocksY 0).run args B (fzA fun r bs F => k (tupC 0 6 r) bs F) }) (tupC 0 6) (fun _ _ _ _ _ h => tupC_rep h) rfl rfl rfl fun _ _ h => h
  refine h3.up datT (fun _ _ _ _ _ h => datT_rep h) rfl rfl rfl fun args k h => ?_
  show (blocksY 0).run args [] _
  unfold blocksT at h
  dsimp only at h
  split at h
  · refine ⟨h.1, fun e he hz hi => ?_, fun hz zs q hb hy hq => ?_⟩
    · show k (.tup [.sl 6 [], .int .i64 e]) [] []
      exact h.2 e [] he (by unfold blkO; rw [if_neg (by rw [← he]; exact hz)]) hi fun c => absurd c hz
    · show k (.tup [.sl 6 (((zs.drop 0).take q).map YB.data), .int .i64 0]) [] []
      rw [List.drop_zero, ← hq, List.take_length, hb]
      exact h.2 0 _ hz.symm rfl (by omega) fun _ => by rw [blkO_len hz]
  · exact h.elim
def numberS : Eng.Spec := { ro := true, own := [], run := fun args _ k => match args with
  | [.sl 0 b] => ∀ a : Int, a = gV b → (0 ≤ a ∧ a ≤ 18446744073709551615) → k (.int .u64 a) [] []
  | _ => False }
def endsS : Eng.Spec := { ro := true, own := [], run := fun args _ k => match args with
  | [.sl 0 b] => b.length = 64 ∧ ∀ x y : Int, x = gV (b.take 8) → y = gV (b.drop 56) → (0 ≤ x ∧ x ≤ 18446744073709551615) → (0 ≤ y ∧ y ≤ 18446744073709551615) → k (.tup [.int .u64 x, .int .u64 y]) [] []
  | _ => False }
def askdS : Eng.Spec := { ro := true, own := [], run := fun args _ k => match args with
  | [.agg [.sl 0 d]] => ∀ e : Int, e = askD d → (e = 0 ∨ e = 180 ∨ e = 190) → k (.int .i64 e) [] []
  | _ => False }
def rslotS : Eng.Spec := { ro := false, own := [], run := fun args _ k => match args with
  | [.agg [.sl 0 d], .int .i64 i] => (D2 d ∧ 0 ≤ i ∧ i ≤ 1) ∧ ∀ (bl : List (List UInt8)) (n : Nat), bl = slotL d i → bl.length = n → k (.row 6 0 0 n) [] [.row 6 bl]
  | _ => False }
def rslotT : Eng.Spec := { ro := false, own := [], run := fun args _ k => match args with
  | [.agg [.sl 0 d], .int .i64 i] => (D2 d ∧ 0 ≤ i ∧ i ≤ 1) ∧ ∀ (bl : List (List UInt8)), bl = slotL d i → k (.sl 6 bl) [] []
  | _ => False }
theorem rslot_up {f : FuncId} (hf : Holds Try.prog f rslotS) : Holds Try.prog f rslotT := by
  have h2 := Holds.fzA (t := { ro := false, own := [], run := fun args B k => rslotS.run args B (fzA k) }) hf rfl rfl rfl fun _ _ h => h
  refine h2.up id (fun _ _ _ _ _ h => h) rfl rfl rfl fun args k h => ?_
  show rslotS.run args [] _
  unfold rslotT at h
  dsimp only at h
  split at h
  · refine ⟨h.1, fun bl n hb hn => ?_⟩
    show k (.sl 6 ((bl.drop 0).take n)) [] []
    rw [List.drop_zero, ← hn, List.take_length]
    exact h.2 bl hb
  · exact h.elim
noncomputable def blocksLoops (yb : Nat) (g m : Int) (ps : List Plan) (n : Int) : List Nat → Nat → Option LoopAnn := fun _ r => match r with
  | 16 => some { V := Nat × List YB × List UInt8 × List UInt8, st := fun v => ⟨mk 91 [(9, .sl 0 v.2.2.1), (10, .sl 0 v.2.2.2), (12, .row 14 7777 0 v.1), (73, .int .i64 n), (74, .int .i64 v.1)], [], [(7777, .row 14 v.2.1)]⟩, I := fun v => v.1 ≤ n.toNat ∧ Laid g m n ps ∧ (1 ≤ n ∧ n ≤ 32) ∧ v.2.2.1.length = 48 * n.toNat ∧ v.2.1.length = v.1 ∧ BIn g m ps n v.1 (v.2.1.map YB.data) v.2.2.1 v.2.2.2 ∧ YAll yb v.2.1, μ := fun v => n.toNat - v.1, boxes := [(9, 0, 0), (10, 0, 0), (12, 7777, 14)] }
  | _ => none
noncomputable def rblocksLoops (g m : Int) (ps : List Plan) (n : Int) : List Nat → Nat → Option LoopAnn := fun _ r => match r with
  | 13 => some { V := Nat × List UInt8, st := fun v => ⟨mk 91 [(1, .int .i64 n), (2, .ptr 1000 0), (10, .row 0 7777 0 v.1)], [], [(7777, .row 0 v.2), (1000, .cells [.int .i64 g, .int .u8 m, .sl 10 ps])]⟩, I := fun v => v.1 ≤ 48 * n.toNat ∧ Laid g m n ps ∧ (1 ≤ n ∧ n ≤ 32) ∧ v.2.length = v.1 ∧ v.2 = blkB m ps ++ List.replicate (v.1 - (blkB m ps).length) 0 ∧ (blkB m ps).length ≤ v.1, μ := fun v => 48 * n.toNat - v.1, boxes := [(10, 7777, 0)] }
  | 18 => some { V := Nat × List (List UInt8) × List UInt8 × List UInt8, st := fun v => ⟨mk 91 [(1, .int .i64 n), (10, .sl 0 v.2.2.1), (11, .sl 0 v.2.2.2), (13, .row 6 7778 0 v.1), (14, .int .i64 v.1)], [], [(7778, .row 6 v.2.1)]⟩, I := fun v => v.1 ≤ n.toNat ∧ Laid g m n ps ∧ (1 ≤ n ∧ n ≤ 32) ∧ v.2.2.1.length = 48 * n.toNat ∧ v.2.2.2.length = 8 ∧ v.2.1.length = v.1 ∧ BIn g m ps n v.1 v.2.1 v.2.2.1 v.2.2.2, μ := fun v => n.toNat - v.1, boxes := [(10, 0, 0), (11, 0, 0), (13, 7778, 6)] }
  | _ => none
def rslotLoops (d : List UInt8) (i : Int) : List Nat → Nat → Option LoopAnn := fun _ r => match r with
  | 4 => some { V := Nat × List (List UInt8), st := fun v => ⟨mk 30 [(1, .int .i64 i), (2, .ptr 1000 0), (5, .int .i64 (half d : Int)), (6, .row 6 7777 0 v.1), (7, .int .i64 (slo d i + v.1))], [], [(7777, .row 6 v.2), (1000, .cells [.sl 0 d])]⟩, I := fun v => v.1 ≤ half d ∧ (0 ≤ i ∧ i ≤ 1) ∧ (1 ≤ half d ∧ half d ≤ 32) ∧ (0 ≤ slo d i ∧ slo d i ≤ 32 ∧ 64 * slo d i + 64 * (half d : Int) ≤ d.length ∧ d.length ≤ 4096) ∧ v.2.length = v.1 ∧ v.2 = slotN d (slo d i) v.1, μ := fun v => half d - v.1, boxes := [(6, 7777, 6)] }
  | _ => none
def F2 : Tab := [(81, plansS), (33, wholeD), (77, equalS)]
theorem F2_ok : TabOk Try.prog F2 := ⟨plans_ok, wholeU_ok, equal_ok, trivial⟩
def F3 : Tab := [(34, smallS), (35, put8S), (33, wholeD), (36, joinS), (78, getS)]
theorem F3_ok : TabOk Try.prog F3 := ⟨small_ok, putU_ok, wholeU_ok, join_ok, get_ok, trivial⟩
def F2r : Tab := [(80, rplansS), (39, wholeD)]
def F3r : Tab := [(38, smallS), (40, put8S), (39, wholeD), (79, getS), (68, checkS), (48, rmanyS), (71, blockS)]
end Go.Proofs.Ytcdflgfhkohldaa
