import Derived.Test.YtcdflgfhkohldaaStV
namespace Go.Proofs.Ytcdflgfhkohldaa
open Go Go.Eng Go.Rw Go.Lk Go.Proofs
open Go.Bk hiding take_step drop_step set_mid
open Go.St hiding take_step
set_option linter.unusedVariables false
def formatS : Eng.Spec := { ro := true, own := [], run := fun args _ k => match args with
  | [.int .i64 n] => (∀ e : Int, e = fmtE n → e ≠ 0 → (0 ≤ e ∧ e ≤ 190) → k (.tup [.agg [.nilsl], .int .i64 e]) [] []) ∧ (fmtE n = 0 → ∀ (ys : List UInt8) (q : Nat), ys = fmtO n → ys.length = q → k (.tup [.agg [.row 0 0 0 q], .int .i64 0]) [] [.row 0 ys])
  | _ => False }
def formatT : Eng.Spec := { ro := false, own := [], run := fun args _ k => match args with
  | [.int .i64 n] => ∀ (e : Int) (ys : List UInt8), e = fmtE n → ys = fmtO n → (0 ≤ e ∧ e ≤ 190) → k (.tup [.agg [.sl 0 ys], .int .i64 e]) [] []
  | _ => False }
def nilA1 (c : Nat) : AV → AV
  | .agg [.nilsl] => .agg [.sl c []]
  | x => x
def nilAT1 (c : Nat) : AV → AV
  | .tup [a, b] => .tup [nilA1 c a, nilA1 c b]
  | x => x
theorem nilA1_rep {c : Nat} {w : World} {im : Nat → Prop} {ρ : Ids} {v : Value} {x : AV} (h : Rep w im ρ v x) : Rep w im ρ v (nilA1 c x) := by
  unfold nilA1
  split
  · obtain ⟨vs, rfl, h1, h2, h3⟩ := h.inv_agg
    refine .agg (by simpa using h1) h2 fun j v hj => ?_
    have := h3 j v hj
    match j with
    | 0 =>
      have t : Rep w im ρ v .nilsl := this
      rw [t.inv_nilsl]
      exact .sl0
    | j + 1 => exact this
  · exact h
theorem nilAT1_rep {c : Nat} {w : World} {im : Nat → Prop} {ρ : Ids} {v : Value} {x : AV} (h : Rep w im ρ v x) : Rep w im ρ v (nilAT1 c x) := by
  unfold nilAT1
  split
  · obtain ⟨vs, rfl, h1, h3⟩ := h.inv_tup
    refine .tup (by simpa using h1) fun j v hj => ?_
    have := h3 j v hj
    match j with
    | 0 => exact nilA1_rep this
    | 1 => exact nilA1_rep this
    | j + 2 => exact this
  · exact h
theorem format_up {f : FuncId} (hf : Holds Try.prog f formatS) : Holds Try.prog f formatT := by
  have h2 := Holds.fzA (t := { ro := false, own := [], run := fun args B k => formatS.run args B (fzA k) }) hf rfl rfl rfl fun _ _ h => h
  refine h2.up (nilAT1 0) (fun _ _ _ _ _ h => nilAT1_rep h) rfl rfl rfl fun args k h => ?_
  show formatS.run args [] _
  unfold formatT at h
  dsimp only at h
  split at h
  · refine ⟨fun e he hz hb => ?_, fun hz ys q hy hq => ?_⟩
    · show k (.tup [.agg [.sl 0 []], .int .i64 e]) [] []
      exact h e [] he (by unfold fmtO; rw [if_neg (by rw [← he]; exact hz)]) hb
    · show k (.tup [.agg [.sl 0 ((ys.drop 0).take q)], .int .i64 0]) [] []
      rw [List.drop_zero, ← hq, List.take_length]
      exact h 0 ys hz.symm hy (by omega)
  · exact h.elim
def putzS : Eng.Spec := { ro := false, own := [], run := fun args _ k => match args with
  | [.agg [.sl 0 d], .int .u8 m, .sl 10 l] => (0 ≤ m ∧ m ≤ 255) ∧ (∀ e : Int, PtR d m l e [] → e ≠ 0 → k (.tup [.nilsl, .int .i64 e]) [] []) ∧ (∀ (ps : List Put) (n : Nat), PtR d m l 0 ps → ps.length = n → k (.tup [.row 9 0 0 n, .int .i64 0]) [] [.row 9 ps])
  | _ => False }
def putzT : Eng.Spec := { ro := false, own := [], run := fun args _ k => match args with
  | [.agg [.sl 0 d], .int .u8 m, .sl 10 l] => (0 ≤ m ∧ m ≤ 255) ∧ ∀ (e : Int) (ps : List Put), PtR d m l e ps → (0 ≤ e ∧ e ≤ 190) → ps.length ≤ 32 → k (.tup [.sl 9 ps, .int .i64 e]) [] []
  | _ => False }
theorem putz_up {f : FuncId} (hf : Holds Try.prog f putzS) : Holds Try.prog f putzT := by
  have h2 := Holds.fzA (t := { ro := false, own := [], run := fun args B k => putzS.run args B (fzA k) }) hf rfl rfl rfl fun _ _ h => h
  refine h2.up (tupC 0 9) (fun _ _ _ _ _ h => tupC_rep h) rfl rfl rfl fun args k h => ?_
  show putzS.run args [] _
  unfold putzT at h
  dsimp only at h
  split at h
  · refine ⟨h.1, fun e hp hz => ?_, fun ps n hp hn => ?_⟩
    · show k (.tup [.sl 9 [], .int .i64 e]) [] []
      exact h.2 e [] hp hp.in.1 (by simp)
    · show k (.tup [.sl 9 ((ps.drop 0).take n), .int .i64 0]) [] []
      rw [List.drop_zero, ← hn, List.take_length]
      exact h.2 0 ps hp (by omega) hp.in.2.1
  · exact h.elim
structure YPs (yb : Nat) (l : List YPut) : Prop where
  h : ∀ z, z ∈ l → z.nb = yb
theorem yb_at {yb : Nat} {bl : List YB} (h : YAll yb bl) {i : Nat} (hi : i < bl.length) : (bl.getD i (dflt 14)).nb = yb ∧ (bl.getD i (dflt 14)).data = (bl.map YB.data).getD i [] := by
  have e : bl.getD i (dflt 14) = bl[i] := by simp [List.getD, hi]
  refine ⟨by rw [e]; exact h.h _ (List.getElem_mem hi), ?_⟩
  rw [e]; simp [List.getD, hi]
theorem YPs.app {yb : Nat} {bl : List YB} {l ys : List YPut} {i k : Nat} {n : Int} (h : YPs yb l) (hb : YAll yb bl) (hi : i < bl.length) (e : ys = List.take k l ++ List.take 1 (List.drop 0 [⟨(bl.getD i (dflt 14)).nb, n, (bl.getD i (dflt 14)).data⟩])) : YPs yb ys := ⟨fun z hz => by
  subst e
  rcases List.mem_append.1 hz with h1 | h1
  · exact h.h z (List.mem_of_mem_take h1)
  · simp at h1; rw [h1]; have := (yb_at hb hi).1; simpa using this⟩
theorem YPs.dat {yb : Nat} {bl : List YB} {l ys : List YPut} {i k : Nat} {n : Int} (hb : YAll yb bl) (hi : i < bl.length) (e : ys = List.take k l ++ List.take 1 (List.drop 0 [⟨(bl.getD i (dflt 14)).nb, n, (bl.getD i (dflt 14)).data⟩])) : ys.map YPut.old = List.take k (l.map YPut.old) ++ List.take 1 (List.drop 0 [⟨n, (bl.map YB.data).getD i []⟩]) := by
  subst e
  rw [← (yb_at hb hi).2]
  simp [List.map_take, YPut.old]
def putzY (yb : Nat) : Eng.Spec := { ro := false, own := [], run := fun args _ k => match args with
  | [.agg [.sl 0 d], .int .u8 m, .sl 10 l] => (0 ≤ m ∧ m ≤ 255) ∧ (∀ e : Int, PtR d m l e [] → e ≠ 0 → k (.tup [.nilsl, .int .i64 e]) [] []) ∧ (∀ (ys : List YPut) (n : Nat), PtR d m l 0 (ys.map YPut.old) → YPs yb ys → ys.length = n → k (.tup [.row 13 0 0 n, .int .i64 0]) [] [.row 13 ys])
  | _ => False }
def putzZ (yb : Nat) : Eng.Spec := { ro := false, own := [], run := fun args _ k => match args with
  | [.agg [.sl 0 d], .int .u8 m, .sl 10 l] => (0 ≤ m ∧ m ≤ 255) ∧ ∀ (e : Int) (ys : List YPut) (n : Nat), PtR d m l e (ys.map YPut.old) → YPs yb ys → ys.length = n → n ≤ 32 → (0 ≤ e ∧ e ≤ 190) → k (.tup [.row 13 0 0 n, .int .i64 e]) [] [.row 13 ys]
  | _ => False }
theorem putzZ_up {f : FuncId} {yb : Nat} (hf : HoldsN yb Try.prog f (putzY yb)) : HoldsN yb Try.prog f (putzZ yb) :=
  hf.nlAt 13 0 rfl rfl rfl fun args k h => by
    unfold putzZ at h
    dsimp only at h
    split at h
    · refine ⟨h.1, fun e hp hz => ?_, fun ys n hp hy hn => ?_⟩
      · show k (.tup [.row 13 0 0 0, .int .i64 e]) [] [.row 13 []]
        exact h.2 e [] 0 hp ⟨fun z hz => by cases hz⟩ rfl (by omega) hp.in.1
      · have := hp.in.2.1
        rw [List.length_map] at this
        exact h.2 0 ys n hp hy hn (by omega) (by omega)
    · exact h.elim
def blocksZ (yb : Nat) : Eng.Spec := { ro := false, own := [], run := fun args _ k => match args with
  | [.agg [.int .i64 g, .int .u8 m, .sl 10 ps], .int .i64 n] => ((-9223372036854775808 ≤ g ∧ g ≤ 9223372036854775807) ∧ 0 ≤ m ∧ m ≤ 255) ∧ ∀ (e : Int) (us : List YB), e = blkE g m ps n → us.map YB.data = blkO g m ps n → YAll yb us → (0 ≤ e ∧ e ≤ 190) → (e = 0 → us.length = n.toNat) → k (.tup [.sl 14 us, .int .i64 e]) [] []
  | _ => False }
theorem blocksZ_up {f : FuncId} {yb : Nat} (hf : HoldsN yb Try.prog f (blocksY yb)) : HoldsN yb Try.prog f (blocksZ yb) := by
  have h2 := HoldsN.fzA (t := { ro := false, own := [], run := fun args B k => (blocksY yb).run args B (fzA k) }) hf rfl rfl rfl fun _ _ h => h
  refine h2.up (tupC 0 14) (fun _ _ _ _ _ h => tupC_rep h) rfl rfl rfl fun args k h => ?_
  show (blocksY yb).run args [] _
  unfold blocksZ at h
  dsimp only at h
  split at h
  · refine ⟨h.1, fun e he hz hi => ?_, fun hz zs q hb hy hq => ?_⟩
    · show k (.tup [.sl 14 [], .int .i64 e]) [] []
      exact h.2 e [] he (by unfold blkO; rw [if_neg (by rw [← he]; exact hz)]; rfl) ⟨fun z hz => by cases hz⟩ hi fun c => absurd c hz
    · show k (.tup [.sl 14 ((zs.drop 0).take q), .int .i64 0]) [] []
      rw [List.drop_zero, ← hq, List.take_length]
      exact h.2 0 zs hz.symm hb hy (by omega) fun _ => by rw [← List.length_map (f := YB.data), hb, blkO_len hz]
  · exact h.elim
def putzCuts (d : List UInt8) (m : Int) (l : List Plan) : List Nat → Nat → Option CutAnn := fun _ r => match r with
  | 17 => some { V := Int × Int, st := fun v => ⟨mk 97 [(10, .ptr 7003 0), (11, .int .i64 (half d : Int)), (15, .int .i64 v.2)], [], [(7003, .cells [.int .i64 v.1, .int .u8 m, .sl 10 l])]⟩, I := fun v => (1 ≤ half d ∧ half d ≤ 32) ∧ (0 ≤ m ∧ m ≤ 3) ∧ (1 ≤ v.1 ∧ v.1 ≤ 4611686018427387936) ∧ (0 ≤ v.2 ∧ v.2 ≤ 1) ∧ PQ d m l v.1 v.2 }
  | _ => none
def putzLoops (yb : Nat) (d : List UInt8) (m : Int) (l : List Plan) : List Nat → Nat → Option LoopAnn := fun _ r => match r with
  | 22 => some { V := Nat × List YPut × List YB × Int, st := fun v => ⟨mk 97 [(9, .int .i64 0), (11, .int .i64 (half d : Int)), (15, .int .i64 v.2.2.2), (18, .row 13 7777 0 v.1), (77, .sl 14 v.2.2.1), (78, .int .i64 v.2.2.1.length), (79, .int .i64 v.1)], [], [(7777, .row 13 v.2.1)]⟩, I := fun v => v.1 ≤ half d ∧ (1 ≤ half d ∧ half d ≤ 32) ∧ v.2.2.1.length = half d ∧ (0 ≤ v.2.2.2 ∧ v.2.2.2 ≤ 1) ∧ (0 ≤ slo d v.2.2.2 ∧ slo d v.2.2.2 ≤ 32) ∧ v.2.1.length = v.1 ∧ BQ d m l v.2.2.2 (v.2.2.1.map YB.data) ∧ PuI (slo d v.2.2.2) (v.2.2.1.map YB.data) v.1 (v.2.1.map YPut.old) ∧ YPs yb v.2.1 ∧ YAll yb v.2.2.1, μ := fun v => half d - v.1, boxes := [(18, 7777, 13)] }
  | _ => none
def rputzCuts (d : List UInt8) (m : Int) (l : List Plan) : List Nat → Nat → Option CutAnn := fun _ r => match r with
  | 15 => some { V := Int × Int, st := fun v => ⟨mk 83 [(1, .int .u8 m), (2, .sl 10 l), (9, .int .i64 (half d : Int)), (12, .int .i64 v.2), (13, .int .i64 v.1)], [], []⟩, I := fun v => (1 ≤ half d ∧ half d ≤ 32) ∧ (0 ≤ m ∧ m ≤ 3) ∧ (1 ≤ v.1 ∧ v.1 ≤ 4611686018427387936) ∧ (0 ≤ v.2 ∧ v.2 ≤ 1) ∧ PQ d m l v.1 v.2 }
  | _ => none
def rputzLoops (d : List UInt8) (m : Int) (l : List Plan) : List Nat → Nat → Option LoopAnn := fun _ r => match r with
  | 20 => some { V := Nat × List Put × List (List UInt8) × Int, st := fun v => ⟨mk 83 [(9, .int .i64 (half d : Int)), (12, .int .i64 v.2.2.2), (14, .sl 6 v.2.2.1), (16, .row 9 7777 0 v.1), (17, .int .i64 v.1)], [], [(7777, .row 9 v.2.1)]⟩, I := fun v => v.1 ≤ half d ∧ (1 ≤ half d ∧ half d ≤ 32) ∧ v.2.2.1.length = half d ∧ (0 ≤ v.2.2.2 ∧ v.2.2.2 ≤ 1) ∧ (0 ≤ slo d v.2.2.2 ∧ slo d v.2.2.2 ≤ 32) ∧ v.2.1.length = v.1 ∧ BQ d m l v.2.2.2 v.2.2.1 ∧ PuI (slo d v.2.2.2) v.2.2.1 v.1 v.2.1, μ := fun v => half d - v.1, boxes := [(16, 7777, 9)] }
  | _ => none
def samePS : Eng.Spec := { ro := true, own := [], run := fun args _ k => match args with
  | [.agg [.int .i64 c, .int .i64 o, .sl 1 s], .agg [.int .i64 c', .int .i64 o', .sl 1 s']] => ∀ r : Bool, (r = true ↔ c = c' ∧ o = o' ∧ s = s') → k (.bool r) [] []
  | _ => False }
def samePlS : Eng.Spec := { ro := true, own := [], run := fun args _ k => match args with
  | [.sl 10 a, .sl 10 b] => ∀ r : Bool, (r = true ↔ a = b) → k (.bool r) [] []
  | _ => False }
def samePlLoops (a b : List Plan) : List Nat → Nat → Option LoopAnn := fun _ r => match r with
  | 4 => some { V := Nat, st := fun v => ⟨mk 27 [(0, .sl 10 a), (1, .sl 10 b), (5, .int .i64 v)], [], []⟩, I := fun v => v ≤ a.length ∧ a.length = b.length ∧ eqP a b v, μ := fun v => a.length - v }
  | _ => none
def samePuS : Eng.Spec := { ro := true, own := [], run := fun args _ k => match args with
  | [.sl 9 a, .sl 9 b] => ∀ r : Bool, (r = true ↔ a = b) → k (.bool r) [] []
  | _ => False }
def samePuLoops (a b : List Put) : List Nat → Nat → Option LoopAnn := fun _ r => match r with
  | 4 => some { V := Nat, st := fun v => ⟨mk 43 [(0, .sl 9 a), (1, .sl 9 b), (5, .int .i64 v)], [], []⟩, I := fun v => v ≤ a.length ∧ a.length = b.length ∧ eqP a b v, μ := fun v => a.length - v }
  | _ => none
def sameKS : Eng.Spec := { ro := true, own := [], run := fun args _ k => match args with
  | [.agg [.int .i64 g, .int .u8 m, .sl 10 ps], .agg [.int .i64 g', .int .u8 m', .sl 10 ps']] => ∀ r : Bool, (r = true ↔ g = g' ∧ m = m' ∧ ps = ps') → k (.bool r) [] []
  | _ => False }
structure PlOk (l : List Plan) : Prop where
  c1 : l.length ≤ 40
  c2 : ∀ j : Nat, (l.getD j (dflt 10)).splits.length ≤ 40
theorem plOk_of {l : List Plan} (h : l.length ≤ 40) (h2 : ∀ j, j < l.length → (l.getD j (dflt 10)).splits.length ≤ 40) : PlOk l := ⟨h, fun j => by
  rcases Nat.lt_or_ge j l.length with c | c
  · exact h2 j c
  · have e : l.getD j (dflt 10) = dflt 10 := by simp [List.getD, Nat.not_lt.2 c]
    rw [e]; show 0 ≤ _; omega⟩
def greatS : Eng.Spec := { ro := true, own := [], run := fun args _ k => match args with
  | [.agg [.int .i64 0, .nilsl, .nilsl, .nilsl, .nilsl, .nilsl, .int .i64 0, .int .i64 0, .int .i64 0, .int .i64 0, .int .i64 0, .sl 10 l]] => ∀ r : Bool, (r = false → PlOk l) → k (.bool r) [] []
  | _ => False }
def greatLoops (l : List Plan) : List Nat → Nat → Option LoopAnn := fun _ r => match r with
  | 4 => some { V := Nat, st := fun v => ⟨mk 68 [(1, .ptr 1000 0), (3, .int .i64 0)], [], [(1000, .cells [.int .i64 0, .nilsl, .nilsl, .nilsl, .nilsl, .nilsl, .int .i64 0, .int .i64 0, .int .i64 0, .int .i64 0, .int .i64 0, .sl 10 l])]⟩, I := fun v => l.length ≤ 40 ∧ v = 0, μ := fun v => v }
  | 9 => some { V := Nat, st := fun v => ⟨mk 68 [(1, .ptr 1000 0), (4, .int .i64 v)], [], [(1000, .cells [.int .i64 0, .nilsl, .nilsl, .nilsl, .nilsl, .nilsl, .int .i64 0, .int .i64 0, .int .i64 0, .int .i64 0, .int .i64 0, .sl 10 l])]⟩, I := fun v => v ≤ l.length ∧ l.length ≤ 40 ∧ ∀ j, j < v → (l.getD j (dflt 10)).splits.length ≤ 40, μ := fun v => l.length - v }
  | _ => none
def largeS : Eng.Spec := { ro := true, own := [], run := fun args _ k => match args with
  | [.sl 10 l] => ∀ r : Bool, (r = false → PlOk l) → k (.bool r) [] []
  | _ => False }
def muchS : Eng.Spec := { ro := true, own := [], run := fun args _ k => match args with
  | [.agg [.sl 0 d], .sl 10 l] => ∀ r : Bool, (r = false → d.length ≤ 5000) → k (.bool r) [] []
  | _ => False }
def twinD : Eng.Spec := { ro := false, own := [], run := fun args _ k => match args with
  | [.agg [.sl 0 d]] => d.length ≤ 5000 ∧ k (.agg [.sl 0 d]) [] []
  | _ => False }
def twinPS : Eng.Spec := { ro := false, own := [], run := fun args _ k => match args with
  | [.sl 10 l] => PlOk l ∧ ∀ (n : Nat) (ys : List Plan), ys = l → n = l.length → k (.row 10 0 0 n) [] [.row 10 ys]
  | _ => False }
def twinPZ : Eng.Spec := { ro := false, own := [], run := fun args _ k => match args with
  | [.sl 10 l] => PlOk l ∧ k (.sl 10 l) [] []
  | _ => False }
def twinPLoops (l : List Plan) : List Nat → Nat → Option LoopAnn := fun _ r => match r with
  | 3 => some { V := Nat × List Plan, st := fun v => ⟨mk 28 [(0, .sl 10 l), (3, .row 10 7777 0 v.1), (4, .int .i64 v.1)], [], [(7777, .row 10 v.2)]⟩, I := fun v => v.1 ≤ l.length ∧ v.2 = l.take v.1 ∧ PlOk l, μ := fun v => l.length - v.1, boxes := [(3, 7777, 10)] }
  | _ => none
def G3x : Tab := []
theorem G3x_ok : TabOk Try.prog G3x := trivial
def G1Y (yb : Nat) : Tab := [(43, slotsS), (44, countsS), (47, nextzS), (11, blocksZ yb)]
def G1 : Tab := [(43, slotsS), (44, countsS), (47, nextzS), (11, blocksT), (41, newS)]
theorem G1_ok : TabOk Try.prog G1 := ⟨slots_ok, counts_ok, nextz_ok, blocksT_ok, new_ok, trivial⟩
def G3a : Tab := [(74, sameIS)]
theorem G3a_ok : TabOk Try.prog G3a := ⟨samei_ok, trivial⟩
def G3b : Tab := [(52, samePS)]
def G3c : Tab := [(25, samePlS)]
def G3d : Tab := [(32, greatS)]
def G3e : Tab := [(10, largeS)]
def G2 : Tab := [(45, askdS), (48, rmanyS), (12, blocksT), (46, rcountsT), (50, rslotT), (49, newestS)]
def G1r : Tab := [(42, newS)]
end Go.Proofs.Ytcdflgfhkohldaa
