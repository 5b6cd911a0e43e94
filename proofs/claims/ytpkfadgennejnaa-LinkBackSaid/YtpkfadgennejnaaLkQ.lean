import Derived.Test.YtpkfadgennejnaaLkO
namespace Go.Proofs.Ytpkfadgennejnaa
open Go Go.Eng Go.Rw Go.Lk Go.Proofs
set_option linter.unusedVariables false
structure allIn (m : Int) (l : List Int) (i : Nat) : Prop where
  e : ∀ x, x ∈ l.take i → 0 ≤ x ∧ x ≤ m
theorem allin_step {m : Int} {l : List Int} {i j : Nat} (h : allIn m l i) (hi : i < l.length) (hj : j = i + 1) (hx : 0 ≤ l.getD i 0 ∧ l.getD i 0 ≤ m) : allIn m l j := by
  subst hj
  refine ⟨fun x hx' => ?_⟩
  rw [take_step l 0 hi] at hx'
  rcases List.mem_append.1 hx' with c | c
  · exact h.e x c
  · rw [List.mem_singleton.1 c]; exact hx
theorem allin_end {m : Int} {l : List Int} {i : Nat} (h : allIn m l i) (hi : l.length ≤ i) : ∀ x, x ∈ l → 0 ≤ x ∧ x ≤ m := fun x hx => h.e x (by rw [List.take_of_length_le hi]; exact hx)
theorem mem_getD {l : List Int} {i : Nat} (hi : i < l.length) : l.getD i 0 ∈ l := by
  rw [List.getD_eq_getElem?_getD, List.getElem?_eq_getElem hi]; exact List.getElem_mem hi
def wholeS : Eng.Spec := { ro := true, own := [], run := fun args _ k => match args with
  | [.sl 10 [(pl : Plan)]] => pl.splits.length ≤ 1000000 ∧ (planOk pl.cycle pl.offset pl.splits → ∀ (ys : List UInt8) (n : Nat), ys.length = n → k (.tup [.row 0 0 0 n, .int .i64 0]) [] [.row 0 ys]) ∧ (¬ planOk pl.cycle pl.offset pl.splits → k (.tup [.nilsl, .int .i64 170]) [] [])
  | _ => False }
noncomputable def wholeD : Eng.Spec := { ro := true, own := [], run := fun args _ k => match args with
  | [.sl 10 [(pl : Plan)]] => pl.splits.length ≤ 1000000 ∧ ∀ (e : Int) (ys : List UInt8) (n : Nat), e = wE pl.cycle pl.offset pl.splits → ys.length = n → k (.tup [.row 0 0 0 n, .int .i64 e]) [] [.row 0 ys]
  | _ => False }
theorem whole_up {f : FuncId} (hf : Holds Try.prog f wholeS) : Holds Try.prog f wholeD := hf.nlAt 0 0 rfl rfl rfl fun args k h => by
  unfold wholeD at h
  dsimp only at h
  split at h
  · refine ⟨h.1, fun hp ys n hn => h.2 0 ys n (wE_0.2 hp).symm hn, fun hp => h.2 170 [] 0 (wE_170 hp).symm rfl⟩
  · exact h.elim
def wholeLoops (pl : Plan) : List Nat → Nat → Option LoopAnn := fun _ r => match r with
  | 5 => some { V := Nat × Nat × List UInt8, st := fun v => ⟨mk 70 [(4, .row 0 7777 0 v.2.1), (16, .sl 10 [pl]), (17, .int .i64 1), (18, .int .i64 v.1)], [], [(7777, .row 0 v.2.2)]⟩, I := fun v => v.1 ≤ 1 ∧ pl.splits.length ≤ 1000000 ∧ v.2.2.length = v.2.1 ∧ v.2.1 ≤ 10 + 200 * v.1 ∧ (v.1 = 1 → planOk pl.cycle pl.offset pl.splits), μ := fun v => 1 - v.1, boxes := [(4, 7777, 0)] }
  | 11 => some { V := Nat × Nat × List UInt8, st := fun v => ⟨mk 70 [(4, .row 0 7777 0 v.2.1), (16, .sl 10 [pl]), (17, .int .i64 1), (18, .int .i64 0), (54, .sl 1 pl.splits), (55, .int .i64 pl.splits.length), (56, .int .i64 v.1)], [], [(7777, .row 0 v.2.2)]⟩, I := fun v => v.1 ≤ pl.splits.length ∧ (1 ≤ pl.splits.length ∧ pl.splits.length ≤ 8) ∧ v.2.2.length = v.2.1 ∧ v.2.1 ≤ 100 + 10 * v.1 ∧ (1 ≤ pl.cycle ∧ pl.cycle ≤ 1048576) ∧ (0 ≤ pl.offset ∧ pl.offset ≤ pl.cycle - 1) ∧ allIn 1048576 pl.splits v.1, μ := fun v => pl.splits.length - v.1, boxes := [(4, 7777, 0)] }
  | _ => none
def rwholeLoops (pl : Plan) : List Nat → Nat → Option LoopAnn := fun _ r => match r with
  | 5 => some { V := Nat × Nat × List UInt8, st := fun v => ⟨mk 80 [(0, .sl 10 [pl]), (4, .row 0 7777 0 v.2.1), (5, .int .i64 v.1)], [], [(7777, .row 0 v.2.2)]⟩, I := fun v => v.1 ≤ 1 ∧ pl.splits.length ≤ 1000000 ∧ v.2.2.length = v.2.1 ∧ v.2.1 ≤ 10 + 200 * v.1 ∧ (v.1 = 1 → planOk pl.cycle pl.offset pl.splits), μ := fun v => 1 - v.1, boxes := [(4, 7777, 0)] }
  | 12 => some { V := Nat × Nat × List UInt8, st := fun v => ⟨mk 80 [(0, .sl 10 [pl]), (4, .row 0 7777 0 v.2.1), (5, .int .i64 0), (6, .ptr 8004 0), (7, .int .i64 v.1)], [], [(8004, .cells [.int .i64 pl.cycle, .int .i64 pl.offset, .sl 1 pl.splits]), (7777, .row 0 v.2.2)]⟩, I := fun v => v.1 ≤ pl.splits.length ∧ (1 ≤ pl.splits.length ∧ pl.splits.length ≤ 8) ∧ v.2.2.length = v.2.1 ∧ v.2.1 ≤ 100 + 10 * v.1 ∧ (1 ≤ pl.cycle ∧ pl.cycle ≤ 1048576) ∧ (0 ≤ pl.offset ∧ pl.offset ≤ pl.cycle - 1) ∧ allIn 1048576 pl.splits v.1, μ := fun v => pl.splits.length - v.1, boxes := [(4, 7777, 0)] }
  | _ => none
noncomputable def commandS : Eng.Spec := { ro := true, own := [], run := fun args _ k => match args with
  | [.agg [.int .i64 s, .int .i64 c, .int .i64 o, .sl 1 l]] => l.length ≤ 1000000 ∧ (∀ e : Int, e = cE s c o l → e ≠ 0 → k (.tup [.nilsl, .int .i64 e]) [] []) ∧ (cE s c o l = 0 → ∀ (ys : List UInt8) (n : Nat), ys = cO s c o l → ys.length = n → k (.tup [.row 0 0 0 n, .int .i64 0]) [] [.row 0 ys])
  | _ => False }
noncomputable def commandD : Eng.Spec := { ro := true, own := [], run := fun args _ k => match args with
  | [.agg [.int .i64 s, .int .i64 c, .int .i64 o, .sl 1 l]] => l.length ≤ 1000000 ∧ ∀ (e : Int) (ys : List UInt8) (n : Nat), e = cE s c o l → ys = cO s c o l → ys.length = n → k (.tup [.row 0 0 0 n, .int .i64 e]) [] [.row 0 ys]
  | _ => False }
theorem command_up {f : FuncId} (hf : Holds Try.prog f commandS) : Holds Try.prog f commandD := hf.nlAt 0 0 rfl rfl rfl fun args k h => by
  unfold commandD at h
  dsimp only at h
  split at h
  · refine ⟨h.1, fun e he hz => h.2 e [] 0 he (by unfold cO; rw [if_neg (by rw [← he]; exact hz)]) rfl, fun hz ys n hy hn => h.2 0 ys n hz.symm hy hn⟩
  · exact h.elim
noncomputable def reportS : Eng.Spec := { ro := true, own := [], run := fun args _ k => match args with
  | [.agg [.int .i64 s, .int .u8 m, .int .i64 t, .sl 1 l]] => l.length ≤ 1000000 ∧ (∀ e : Int, e = rE s m t l → e ≠ 0 → k (.tup [.nilsl, .int .i64 e]) [] []) ∧ (rE s m t l = 0 → ∀ (ys : List UInt8) (n : Nat), ys = rO s m t l → ys.length = n → k (.tup [.row 0 0 0 n, .int .i64 0]) [] [.row 0 ys])
  | _ => False }
noncomputable def reportD : Eng.Spec := { ro := true, own := [], run := fun args _ k => match args with
  | [.agg [.int .i64 s, .int .u8 m, .int .i64 t, .sl 1 l]] => l.length ≤ 1000000 ∧ ∀ (e : Int) (ys : List UInt8) (n : Nat), e = rE s m t l → ys = rO s m t l → ys.length = n → k (.tup [.row 0 0 0 n, .int .i64 e]) [] [.row 0 ys]
  | _ => False }
theorem report_up {f : FuncId} (hf : Holds Try.prog f reportS) : Holds Try.prog f reportD := hf.nlAt 0 0 rfl rfl rfl fun args k h => by
  unfold reportD at h
  dsimp only at h
  split at h
  · refine ⟨h.1, fun e he hz => h.2 e [] 0 he (by unfold rO; rw [if_neg (by rw [← he]; exact hz)]) rfl, fun hz ys n hy hn => h.2 0 ys n hz.symm hy hn⟩
  · exact h.elim
def reportLoops (s m t : Int) (l : List Int) : List Nat → Nat → Option LoopAnn := fun _ r => match r with
  | 10 => some { V := Nat × Nat × List UInt8, st := fun v => ⟨mk 57 [(4, .row 0 7777 0 v.2.1), (39, .sl 1 l), (40, .int .i64 l.length), (41, .int .i64 v.1)], [], [(7777, .row 0 v.2.2)]⟩, I := fun v => v.1 ≤ l.length ∧ l.length ≤ 8 ∧ v.2.2.length = v.2.1 ∧ v.2.1 ≤ 100 + 10 * v.1 ∧ v.2.2 = sms [s, m, t, (l.length : Int)] ++ sms (l.take v.1) ∧ allIn 70368744177664 l v.1 ∧ ((0 ≤ s ∧ s ≤ 65535) ∧ m ≤ 3 ∧ 0 ≤ t ∧ t ≤ 1073741824), μ := fun v => l.length - v.1, boxes := [(4, 7777, 0)] }
  | _ => none
def rreportLoops (s m t : Int) (l : List Int) : List Nat → Nat → Option LoopAnn := fun _ r => match r with
  | 7 => some { V := Nat × Nat × List UInt8, st := fun v => ⟨mk 76 [(1, .ptr 1000 0), (4, .row 0 7777 0 v.2.1), (5, .int .i64 v.1)], [], [(1000, .cells [.int .i64 s, .int .u8 m, .int .i64 t, .sl 1 l]), (7777, .row 0 v.2.2)]⟩, I := fun v => v.1 ≤ l.length ∧ l.length ≤ 8 ∧ v.2.2.length = v.2.1 ∧ v.2.1 ≤ 100 + 10 * v.1 ∧ v.2.2 = sms [s, m, t, (l.length : Int)] ++ sms (l.take v.1) ∧ allIn 70368744177664 l v.1 ∧ ((0 ≤ s ∧ s ≤ 65535) ∧ m ≤ 3 ∧ 0 ≤ t ∧ t ≤ 1073741824), μ := fun v => l.length - v.1, boxes := [(4, 7777, 0)] }
  | _ => none
def samePS : Eng.Spec := { ro := true, own := [], run := fun args _ k => match args with
  | [.agg [.int .i64 c1, .int .i64 o1, .sl 1 l1], .agg [.int .i64 c2, .int .i64 o2, .sl 1 l2]] => ∀ r : Bool, (r = true ↔ c1 = c2 ∧ o1 = o2 ∧ l1 = l2) → k (.bool r) [] []
  | _ => False }
def sameCS : Eng.Spec := { ro := true, own := [], run := fun args _ k => match args with
  | [.agg [.int .i64 s1, .int .i64 c1, .int .i64 o1, .sl 1 l1], .agg [.int .i64 s2, .int .i64 c2, .int .i64 o2, .sl 1 l2]] => ∀ r : Bool, (r = true ↔ s1 = s2 ∧ c1 = c2 ∧ o1 = o2 ∧ l1 = l2) → k (.bool r) [] []
  | _ => False }
def sameRS : Eng.Spec := { ro := true, own := [], run := fun args _ k => match args with
  | [.agg [.int .i64 s1, .int .u8 c1, .int .i64 o1, .sl 1 l1], .agg [.int .i64 s2, .int .u8 c2, .int .i64 o2, .sl 1 l2]] => ∀ r : Bool, (r = true ↔ s1 = s2 ∧ c1 = c2 ∧ o1 = o2 ∧ l1 = l2) → k (.bool r) [] []
  | _ => False }
def sameRLoops (s1 c1 o1 : Int) (l1 : List Int) (s2 c2 o2 : Int) (l2 : List Int) : List Nat → Nat → Option LoopAnn := fun _ r => match r with
  | 4 => some { V := Nat, st := fun v => ⟨mk 52 [(2, .ptr 1000 0), (3, .ptr 1001 0), (5, .int .i64 v)], [], [(1000, .cells [.int .i64 s1, .int .u8 c1, .int .i64 o1, .sl 1 l1]), (1001, .cells [.int .i64 s2, .int .u8 c2, .int .i64 o2, .sl 1 l2])]⟩, I := fun v => v ≤ l1.length ∧ l1.length = l2.length ∧ (s1 = s2 ∧ c1 = c2 ∧ o1 = o2) ∧ eqI l1 l2 v, μ := fun v => l1.length - v }
  | _ => none
def M2 : Tab := [(44, putX), (45, ticksS), (46, inS), (48, smsS), (49, inS), (38, smsS), (34, sitedS), (36, putX), (39, smallS), (52, sameIS)]
theorem M2_ok : TabOk Try.prog M2 := ⟨sput_ok, ticks_ok, sin_ok, sms05_ok, rin_ok, sms20_ok, sited_ok, put_ok, rsmall_ok, samei_ok, trivial⟩
noncomputable def M3 : Tab := [(35, wholeD), (37, wholeD), (34, sitedS), (36, putX), (38, smsS), (43, samePS)]
end Go.Proofs.Ytpkfadgennejnaa

