import Derived.Test.YtilbglkpbjamfaaFrE
namespace Go.Fr
open Go Go.Eng Go.Rw
set_option linter.unusedVariables false
set_option linter.unusedSimpArgs false
/-- The message that a piece is, if it is one. -/
def pc (u : List UInt8) : Option (Int × Int × List UInt8) := match bare u with
  | none => none
  | some i => if okO i then some (oK i, oS i, oB i) else none
def mkM (t : Int × Int × List UInt8) : Msg := ⟨UInt8.ofNat t.1.toNat, UInt32.ofNat t.2.1.toNat, t.2.2⟩
def pcL (u : List UInt8) : List Msg := match pc u with
  | none => []
  | some t => [mkM t]
/-- A reader: begun, long, and what is under way. -/
abbrev Rd := Bool × Bool × List UInt8
def rst (s : Rd) (x : UInt8) : Rd := if x = 126 then (true, false, []) else if 1043 ≤ s.2.2.length then (s.1, true, s.2.2) else if s.1 = true then (s.1, s.2.1, s.2.2 ++ [x]) else s
def emit (s : Rd) (x : UInt8) : List Msg := if x = 126 ∧ s.1 = true ∧ s.2.1 = false then pcL s.2.2 else []
def rfold (s : Rd) (b : List UInt8) : Rd := b.foldl rst s
def msgs : Rd → List UInt8 → List Msg
  | _, [] => []
  | s, x :: b => emit s x ++ msgs (rst s x) b
theorem rfold_app (s : Rd) (a b : List UInt8) : rfold s (a ++ b) = rfold (rfold s a) b := by unfold rfold; rw [List.foldl_append]
theorem msgs_app : ∀ (s : Rd) (a b : List UInt8), msgs s (a ++ b) = msgs s a ++ msgs (rfold s a) b
  | s, [], b => rfl
  | s, x :: a, b => by
    rw [List.cons_append, msgs, msgs, msgs_app (rst s x) a b, List.append_assoc]; rfl
theorem rfold_step (s : Rd) {b : List UInt8} {i : Nat} (h : i < b.length) : rfold s (b.take (i + 1)) = rst (rfold s (b.take i)) (b.getD i 0) := by
  rw [take_step b 0 h, rfold_app]; rfl
theorem msgs_step (s : Rd) {b : List UInt8} {i : Nat} (h : i < b.length) : msgs s (b.take (i + 1)) = msgs s (b.take i) ++ emit (rfold s (b.take i)) (b.getD i 0) := by
  rw [take_step b 0 h, msgs_app]
  show _ ++ (emit _ _ ++ []) = _
  rw [List.append_nil]
theorem rst_len {s : Rd} (h : s.2.2.length ≤ 1043) (x : UInt8) : (rst s x).2.2.length ≤ 1043 := by
  unfold rst
  split
  · simp
  · split
    · exact h
    · split
      · simp only [List.length_append, List.length_cons, List.length_nil]; omega
      · exact h
theorem rfold_len : ∀ (b : List UInt8) {s : Rd}, s.2.2.length ≤ 1043 → (rfold s b).2.2.length ≤ 1043
  | [], s, h => h
  | x :: b, s, h => rfold_len b (s := rst s x) (rst_len h x)
theorem emit_len (s : Rd) (x : UInt8) : (emit s x).length ≤ 1 := by
  unfold emit pcL
  split
  · split <;> simp
  · simp
theorem msgs_len : ∀ (b : List UInt8) (s : Rd), (msgs s b).length ≤ b.length
  | [], s => Nat.le_refl _
  | x :: b, s => by
    have := emit_len s x
    have := msgs_len b (rst s x)
    rw [msgs, List.length_append, List.length_cons]; omega
/-- All messages of some bytes. -/
def scan (b : List UInt8) : List Msg := msgs (false, false, []) b
/-- Where the last end stands. -/
def lastE : List UInt8 → Int
  | [] => -1
  | x :: b => if lastE b ≠ -1 then lastE b + 1 else if x = 126 then 0 else -1
/-- A message's frame. -/
def wr (kd sq : Int) (bo : List UInt8) : List UInt8 := [126] ++ stf (ins kd sq bo) ++ [126]
theorem wr_len (kd sq : Int) (bo : List UInt8) (h : bo.length ≤ 512) : (wr kd sq bo).length ≤ 1100 := by
  unfold wr
  have := stf_len (ins kd sq bo)
  rw [ins_len] at this
  simp only [List.length_append, List.length_cons, List.length_nil]; omega
/-- Bytes without an end, into an open reader. -/
theorem run_plain : ∀ (b u : List UInt8), (∀ x, x ∈ b → x ≠ 126) → u.length + b.length ≤ 1043 → rfold (true, false, u) b = (true, false, u ++ b) ∧ msgs (true, false, u) b = []
  | [], u, _, _ => by simp [rfold, msgs]
  | x :: b, u, h, hl => by
    have hx : x ≠ 126 := h x (List.mem_cons_self ..)
    simp only [List.length_cons] at hl
    have e : rst (true, false, u) x = (true, false, u ++ [x]) := by
      unfold rst
      rw [if_neg hx, if_neg (by show ¬ 1043 ≤ u.length; omega), if_pos rfl]
    have g : emit (true, false, u) x = [] := by unfold emit; rw [if_neg (fun c => hx c.1)]
    obtain ⟨r1, r2⟩ := run_plain b (u ++ [x]) (fun y hy => h y (List.mem_cons_of_mem _ hy)) (by simp only [List.length_append, List.length_cons, List.length_nil]; omega)
    refine ⟨?_, ?_⟩
    · show rfold (rst (true, false, u) x) b = _
      rw [e, r1, List.append_assoc]; rfl
    · rw [msgs, g, e, r2]; rfl
theorem pc_ins {kd sq : Int} {bo : List UInt8} (h1 : 0 ≤ kd ∧ kd ≤ 255) (h2 : 0 ≤ sq ∧ sq ≤ 4294967295) (h : bo.length ≤ 512) : pc (stf (ins kd sq bo)) = some (kd, sq, bo) := by
  unfold pc
  rw [bare_stf]
  dsimp only
  rw [if_pos (ins_ok kd sq h), ins_K sq bo h1, ins_S kd bo h2, ins_B]
theorem pcL_of {u : List UInt8} {t : Int × Int × List UInt8} (h : pc u = some t) : pcL u = [mkM t] := by unfold pcL; rw [h]
theorem pcL_none {u : List UInt8} (h : pc u = none) : pcL u = [] := by unfold pcL; rw [h]
theorem pcL_nil : pcL [] = [] := by
  have : pc [] = none := by
    show (if okO [] then some (oK [], oS [], oB []) else none) = none
    rw [if_neg]
    rintro ⟨h, -⟩
    simp at h
  unfold pcL
  rw [this]
/-- A frame, into an open reader that has nothing under way. -/
theorem run_frame {kd sq : Int} {bo : List UInt8} (h1 : 0 ≤ kd ∧ kd ≤ 255) (h2 : 0 ≤ sq ∧ sq ≤ 4294967295) (h : bo.length ≤ 512) (s : Rd) : rfold s (wr kd sq bo) = (true, false, []) ∧ msgs s (wr kd sq bo) = emit s 126 ++ [mkM (kd, sq, bo)] := by
  have L := stf_len (ins kd sq bo)
  rw [ins_len] at L
  obtain ⟨r1, r2⟩ := run_plain (stf (ins kd sq bo)) [] (stf_no _) (by simp only [List.length_nil]; omega)
  have e : rst s 126 = (true, false, []) := rfl
  unfold wr
  refine ⟨?_, ?_⟩
  · rw [rfold_app]; rfl
  · rw [List.append_assoc, List.cons_append, List.nil_append, msgs, e, msgs_app, r1, r2]
    show emit s 126 ++ ([] ++ (emit (true, false, [] ++ stf (ins kd sq bo)) 126 ++ [])) = _
    congr 1
    unfold emit
    rw [if_pos ⟨rfl, rfl, rfl⟩]
    show pcL (stf (ins kd sq bo)) ++ [] = _
    rw [pcL_of (pc_ins h1 h2 h)]; rfl
/-- A message as numbers. -/
def mK (m : Msg) : Int := (m.kind.toNat : Int)
def mS (m : Msg) : Int := (m.seq.toNat : Int)
def wrM (m : Msg) : List UInt8 := wr (mK m) (mS m) m.body
def frs (l : List Msg) : List UInt8 := l.flatMap wrM
theorem mk_M (m : Msg) : mkM (mK m, mS m, m.body) = m := by
  cases m; simp [mkM, mK, mS]
theorem run_frameM (m : Msg) (h : m.body.length ≤ 512) (s : Rd) : rfold s (wrM m) = (true, false, []) ∧ msgs s (wrM m) = emit s 126 ++ [m] := by
  have a := m.kind.toNat_lt
  have b := m.seq.toNat_lt
  have := run_frame (kd := mK m) (sq := mS m) (bo := m.body) ⟨by unfold mK; omega, by unfold mK; omega⟩ ⟨by unfold mS; omega, by unfold mS; omega⟩ h s
  rw [mk_M] at this
  exact this
theorem emit_open : emit (true, false, []) 126 = [] := by
  unfold emit
  rw [if_pos ⟨rfl, rfl, rfl⟩, pcL_nil]
theorem run_frs : ∀ (l : List Msg), (∀ m, m ∈ l → m.body.length ≤ 512) → rfold (true, false, []) (frs l) = (true, false, []) ∧ msgs (true, false, []) (frs l) = l
  | [], _ => by simp [frs, rfold, msgs]
  | m :: l, h => by
    obtain ⟨a1, a2⟩ := run_frameM m (h m (List.mem_cons_self ..)) (true, false, [])
    obtain ⟨b1, b2⟩ := run_frs l fun x hx => h x (List.mem_cons_of_mem _ hx)
    have e : frs (m :: l) = wrM m ++ frs l := by unfold frs; rw [List.flatMap_cons]
    rw [e]
    refine ⟨by rw [rfold_app, a1, b1], ?_⟩
    rw [msgs_app, a2, a1, b2, emit_open]; rfl
/-- The stage's theorem. -/
theorem found {ahead behind : List UInt8} {l : List Msg} (hl : l ≠ []) (h : ∀ m, m ∈ l → m.body.length ≤ 512) : scan (ahead ++ frs l ++ behind) = scan (ahead ++ [126]) ++ l ++ scan ([126] ++ behind) := by
  match l, hl with
  | m :: l, _ =>
    obtain ⟨a1, a2⟩ := run_frameM m (h m (List.mem_cons_self ..)) (rfold (false, false, []) ahead)
    obtain ⟨b1, b2⟩ := run_frs l fun x hx => h x (List.mem_cons_of_mem _ hx)
    have e : frs (m :: l) = wrM m ++ frs l := by unfold frs; rw [List.flatMap_cons]
    unfold scan
    rw [e, msgs_app, msgs_app, msgs_app, msgs_app, msgs_app, rfold_app, rfold_app, a2, a1, b1, b2]
    have s1 : msgs (rfold (false, false, []) ahead) [126] = emit (rfold (false, false, []) ahead) 126 := by
      show emit _ _ ++ [] = _
      rw [List.append_nil]
    have s2 : msgs (false, false, []) [126] = [] := rfl
    have s3 : rfold (false, false, []) [126] = (true, false, []) := rfl
    rw [s1, s2, s3]
    simp
theorem wrM_len {m : Msg} (h : m.body.length ≤ 512) : (wrM m).length ≤ 1100 := wr_len _ _ _ h
theorem frs_take (l : List Msg) {i : Nat} (h : i < l.length) : frs (l.take (i + 1)) = frs (l.take i) ++ wrM (l.getD i (dflt 8)) := by
  rw [take_step l (dflt 8) h]
  unfold frs
  rw [List.flatMap_append, List.flatMap_singleton]
theorem last_step {b : List UInt8} {i : Nat} (h : i < b.length) : lastE (b.drop i) = if lastE (b.drop (i + 1)) ≠ -1 then lastE (b.drop (i + 1)) + 1 else if b.getD i 0 = 126 then 0 else -1 := by
  rw [List.drop_eq_getElem_cons h, lastE, List.getD_eq_getElem?_getD, List.getElem?_eq_getElem h]; rfl
end Go.Fr
namespace Go.Fr
open Go Go.Eng Go.Rw
set_option linter.unusedVariables false
set_option linter.unusedSimpArgs false
theorem last_drop {b : List UInt8} : ∀ {i : Nat}, i ≤ b.length → lastE (b.drop i) ≠ -1 → lastE b = lastE (b.drop i) + i
  | 0, _, _ => by rw [List.drop_zero]; simp
  | i + 1, hi, h => by
    have e := last_step (b := b) (i := i) (by omega)
    rw [if_pos h] at e
    have g : -1 ≤ lastE (b.drop (i + 1)) := by
      have : ∀ l : List UInt8, -1 ≤ lastE l := fun l => by
        induction l with
        | nil => decide
        | cons x l ih =>
          rw [lastE]
          by_cases c : lastE l ≠ -1
          · rw [if_pos c]; omega
          · rw [if_neg c]; split <;> omega
      exact this _
    have := last_drop (b := b) (i := i) (by omega) (by omega)
    omega
theorem last_is {b : List UInt8} {i : Int} (h0 : 0 ≤ i) (h1 : i < b.length) (hb : b.getD i.toNat 0 = 126) (h : lastE (b.drop (i + 1).toNat) = -1) : i = lastE b := by
  have e := last_step (b := b) (i := i.toNat) (by omega)
  rw [show i.toNat + 1 = (i + 1).toNat by omega, if_neg (by rw [h]; decide), if_pos hb] at e
  have := last_drop (b := b) (i := i.toNat) (by omega) (by omega)
  omega
theorem last_back {b : List UInt8} {i j : Int} (h0 : 0 ≤ i) (h1 : i < b.length) (hb : b.getD i.toNat 0 ≠ 126) (h : lastE (b.drop (i + 1).toNat) = -1) (hj : j = i - 1) : lastE (b.drop (j + 1).toNat) = -1 := by
  have e := last_step (b := b) (i := i.toNat) (by omega)
  rw [show i.toNat + 1 = (i + 1).toNat by omega, if_neg (by rw [h]; decide), if_neg hb] at e
  rw [show (j + 1).toNat = i.toNat by omega]; exact e
theorem byteE {x : UInt8} {n : Int} (h : n = (x.toNat : Int)) : n = 126 → x = 126 := fun e => byte_is (n := 126) (by decide) (by omega)
end Go.Fr
