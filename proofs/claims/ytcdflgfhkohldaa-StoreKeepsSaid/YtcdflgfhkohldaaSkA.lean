import Derived.Test.YtcdflgfhkohldaaStP
import Derived.Test.YtcdflgfhkohldaaStY
namespace Go.St
open Go Go.Eng Go.Rw Go.Lk Go.Bk
set_option linter.unusedVariables false
set_option linter.unusedSimpArgs false
theorem RdR.uniq {d : List UInt8} {e g m e' g' m' : Int} {ps ps' : List Plan} (h : RdR d e g m ps) (h' : RdR d e' g' m' ps') : e = e' ∧ g = g' ∧ m = m' ∧ ps = ps' := by
  by_cases c : askD d = 0
  · obtain ⟨x, k, y⟩ := h.b c
    obtain ⟨x', k', y'⟩ := h'.b c
    obtain ⟨rfl, rfl, rfl, rfl⟩ := k.uniq k'
    exact ⟨by omega, rfl, rfl, rfl⟩
  · obtain ⟨rfl, rfl, rfl, rfl⟩ := h.a c
    obtain ⟨rfl, rfl, rfl, rfl⟩ := h'.a c
    exact ⟨rfl, rfl, rfl, rfl⟩
theorem PtR.uniq {d : List UInt8} {m e e' : Int} {l : List Plan} {ps ps' : List Put} (h : PtR d m l e ps) (h' : PtR d m l e' ps') : e = e' ∧ ps = ps' := by
  by_cases a : askD d = 0
  · by_cases b : m ≤ 3
    · by_cases c : blkE 1 m l (half d : Int) = 0
      · obtain ⟨r, t, q, x⟩ := h.d a b c
        obtain ⟨r', t', q', x'⟩ := h'.d a b c
        obtain ⟨c1, g, mm, pp, k, ht, n⟩ := q.h
        obtain ⟨c1', g', mm', pp', k', ht', n'⟩ := q'.h
        obtain ⟨rfl, rfl, rfl, rfl⟩ := k.uniq k'
        have et : t = t' := ht.trans ht'.symm
        subst et
        have er := n.uniq n'
        subst er
        rcases x with ⟨y1, rfl, rfl⟩ | ⟨y1, rfl, rfl⟩ <;> rcases x' with ⟨y2, rfl, rfl⟩ | ⟨y2, rfl, rfl⟩
        · exact ⟨rfl, rfl⟩
        · omega
        · omega
        · exact ⟨rfl, rfl⟩
      · obtain ⟨rfl, rfl⟩ := h.c a b c
        obtain ⟨rfl, rfl⟩ := h'.c a b c
        exact ⟨rfl, rfl⟩
    · obtain ⟨rfl, rfl⟩ := h.b a (by omega)
      obtain ⟨rfl, rfl⟩ := h'.b a (by omega)
      exact ⟨rfl, rfl⟩
  · obtain ⟨rfl, rfl⟩ := h.a a
    obtain ⟨rfl, rfl⟩ := h'.a a
    exact ⟨rfl, rfl⟩
theorem SlR.uniq {d : List UInt8} {i e g m e' g' m' : Int} {ps ps' : List Plan} (h : SlR d i e g m ps) (h' : SlR d i e' g' m' ps') : e = e' ∧ g = g' ∧ m = m' ∧ ps = ps' := by
  by_cases c : askD d = 0
  · by_cases hi : i = 0 ∨ i = 1
    · rcases h.c c hi with ⟨rfl, k⟩ | ⟨rfl, k⟩ <;> rcases h'.c c hi with ⟨rfl, k'⟩ | ⟨rfl, k'⟩
      · exact ⟨rfl, (k.uniq k').2⟩
      · cases (k.uniq k').1
      · cases (k.uniq k').1
      · exact ⟨rfl, (k.uniq k').2⟩
    · obtain ⟨rfl, rfl, rfl, rfl⟩ := h.b c hi
      obtain ⟨rfl, rfl, rfl, rfl⟩ := h'.b c hi
      exact ⟨rfl, rfl, rfl, rfl⟩
  · obtain ⟨rfl, rfl, rfl, rfl⟩ := h.a c
    obtain ⟨rfl, rfl, rfl, rfl⟩ := h'.a c
    exact ⟨rfl, rfl, rfl, rfl⟩
end Go.St
namespace Go.Proofs.Ytcdflgfhkohldaa
open Go Go.Eng Go.Rw Go.Lk Go.Proofs
open Go.Bk hiding take_step drop_step set_mid
open Go.St hiding take_step
set_option linter.unusedVariables false
set_option maxHeartbeats 2000000 in
theorem twinP_vc (l : List Plan) (hs : PlOk l) (k : AV → List (Option Blk) → List Blk → Prop) (hk : ∀ (n : Nat) (ys : List Plan), ys = l → n = l.length → k (.row 10 0 0 n) [] [.row 10 ys]) : (∃ (v : Nat × List Plan), (l = l) ∧ (0 = 0) ∧ (0 = v.fst) ∧ ((0 : Int) = (↑v.fst : Int)) ∧ ([] = v.snd) ∧ (v.fst ≤ l.length) ∧ (v.snd = List.take v.fst l) ∧ (PlOk l)) ∧ ∀ (v_1 : Nat × List Plan), (v_1.fst ≤ l.length ∧ v_1.snd = List.take v_1.fst l ∧ PlOk l) → ∀ (n3 : Int), (n3 = (↑l.length : Int)) → (inK .i64 n3) → br (decide ((↑v_1.fst : Int) < n3)) (((0 : Int) ≤ (↑v_1.fst : Int)) ∧ ((↑v_1.fst : Int) < (↑l.length : Int)) ∧ ((0 : Int) ≤ (↑v_1.fst : Int)) ∧ ((↑v_1.fst : Int) < (↑l.length : Int)) ∧ ((l.getD (↑v_1.fst : Int).toNat (dflt 10)).splits.length * 8 ≤ 140737488355328) ∧ ∀ (z6 : List Int), (z6 = (l.getD (↑v_1.fst : Int).toNat (dflt 10)).splits) → ((v_1.fst + 1) * 40 ≤ 140737488355328) ∧ ∀ (z8 : List Plan), (z8 = List.take v_1.fst v_1.snd ++ List.take 1 (List.drop 0 [{ cycle := (l.getD (↑v_1.fst : Int).toNat (dflt 10)).cycle, offset := (l.getD (↑v_1.fst : Int).toNat (dflt 10)).offset, splits := List.take (l.getD (↑v_1.fst : Int).toNat (dflt 10)).splits.length (List.drop 0 z6) : Plan }])) → ∀ (n10 : Int), (n10 = IntKind.i64.wrap ((↑v_1.fst : Int) + (1 : Int))) → (inK .i64 n10) → ∃ (v' : Nat × List Plan), (l = l) ∧ (0 = 0) ∧ (v_1.fst + 1 = v'.fst) ∧ (n10 = (↑v'.fst : Int)) ∧ (z8 = v'.snd) ∧ ((v'.fst ≤ l.length) ∧ (v'.snd = List.take v'.fst l) ∧ (PlOk l)) ∧ (l.length - v'.fst < l.length - v_1.fst)) ((k (.row 10 0 0 v_1.fst) [] [.row 10 v_1.snd])) := by
 refine ⟨?_, ?_⟩
 ·
  refine ⟨((0 : Nat), []), rfl, rfl, rfl, by show (0 : Int) = (↑(0 : Nat) : Int); omega, rfl, by show (0 : Nat) ≤ l.length; omega, by rfl, ?_⟩
  exact by show PlOk l; assumption
 intro v_1 h1 n3 q3 ⟨l3, u3⟩
 refine brd (fun c2 => ?_) (fun c2 => ?_)
 ·
  refine ⟨by first | omega | (dsimp only; omega), by first | omega | (dsimp only; omega), by first | omega | (dsimp only; omega), by first | omega | (dsimp only; omega), ?_⟩
  have h3 : (l.getD (↑v_1.fst : Int).toNat (dflt (10 : Nat))).splits.length * (8 : Nat) ≤ (140737488355328 : Nat) := by
   have := hs.c2 (↑v_1.fst : Int).toNat; omega
  refine ⟨h3, ?_⟩
  intro z6 qz6
  have h4 : (v_1.fst + (1 : Nat)) * (40 : Nat) ≤ (140737488355328 : Nat) := by
   have := hs.c1; omega
  refine ⟨h4, ?_⟩
  intro z8 qz8 n10 q10
  first | (rw [wrI64] at q10; rotate_left 1; · omega) | rw [IntKind.wrap_i64] at q10
  intro ⟨l10, u10⟩
  refine ⟨(v_1.fst + (1 : Nat), z8), rfl, rfl, rfl, by show n10 = (↑(v_1.fst + (1 : Nat)) : Int); omega, rfl, ?_⟩
  refine ⟨?_, ?_⟩
  ·
   refine ⟨by show v_1.fst + (1 : Nat) ≤ l.length; omega, ?_⟩
   have h5 : z8 = List.take (v_1.fst + (1 : Nat)) l := by
    rw [Int.toNat_natCast] at qz6 qz8
    have e : v_1.snd.length = v_1.fst := by rw [h1.2.1, List.length_take]; omega
    rw [take_step l (dflt 10) (by omega), qz8, qz6, ← h1.2.1, List.take_of_length_le (by omega)]
    simp only [List.drop_zero, List.take_length]
    rfl
   refine ⟨h5, ?_⟩
   exact by show PlOk l; assumption
  exact by show l.length - (v_1.fst + (1 : Nat)) < l.length - v_1.fst; omega
 exact hk _ _ (by rw [h1.2.1, List.take_of_length_le (by omega)]) (by omega)
theorem twinP_ok : Holds Try.prog 14 twinPS := by
  refine fn_sound (env := mkEnv G3x) (tab_ok G3x_ok) Try.func14 Try.call14 fun args k h => ?_
  match args, h with
  | [.sl 10 l], h => exact ⟨by kernel_rfl, twinPLoops l, fun _ _ => none, .cast (by kernel_rfl) (twinP_vc l h.1 k h.2)⟩
theorem twinPZ_ok : Holds Try.prog 14 twinPZ :=
  twinP_ok.fzA rfl rfl rfl fun args k h => by
    unfold twinPZ at h
    dsimp only at h
    split at h
    · rename_i l
      refine ⟨h.1, fun n ys hy hn => ?_⟩
      show k (.sl 10 ((ys.drop 0).take n)) [] []
      rw [hy, hn, List.drop_zero, List.take_length]
      exact h.2
    · exact h.elim
theorem twinD_ok : Holds Try.prog 13 twinD :=
  twin_ok.fzA rfl rfl rfl fun args k h => by
    unfold twinD at h
    dsimp only at h
    split at h
    · rename_i d
      refine ⟨by omega, fun ys n hy hn => ?_⟩
      show k (.agg [.sl 0 ((ys.drop 0).take n)]) [] []
      rw [← hn, List.drop_zero, List.take_length, hy]
      exact h.2
    · exact h.elim
theorem old_yps {yb : Nat} (l : List YPut) : True := trivial
def samePuY : Eng.Spec := { samePuS with run := fun args B k => samePuS.run (args.map oldA) B k }
theorem samePuY_ok : Holds Try.prog 24 samePuY := samePu_ok.oldA
def W1 : Tab := [(10, largeS), (13, twinD), (14, twinPZ), (25, samePlS)]
theorem W1_ok : TabOk Try.prog W1 := ⟨large_ok, twinD_ok, twinPZ_ok, samePl_ok, trivial⟩
def W2 (yb : Nat) : Tab := [(15, formatT), (16, formatT), (17, rReadT), (18, rReadT), (19, putzZ yb), (20, putzT), (21, rSlotT), (22, rSlotT), (23, sameKS), (24, samePuY)]
theorem W2_ok (yb : Nat) : TabOkN yb Try.prog (W2 yb) := ⟨formatT_ok.n yb, rformatT_ok.n yb, zReadT_ok.n yb, rReadT_ok.n yb, putzZ_up (putzY_ok yb), rputzT_ok.n yb, zSlotT_ok.n yb, rSlotT_ok.n yb, sameK_ok.n yb, samePuY_ok.n yb, trivial⟩
noncomputable def skBody : Code := match Try.f4.body with
  | some c => c
  | none => .skip
noncomputable def skL1 : List Code := (seqs skBody).take 5
noncomputable def skL2 : List Code := ((seqs skBody).drop 5).take 12
noncomputable def skL3 : List Code := ((seqs skBody).drop 5).drop 12
def skA (n : Int) (d : List UInt8) (m : Int) (l : List Plan) (i : Int) : AS := ⟨mk 169 [(0, .int .i64 n), (2, .int .u8 m), (3, .sl 10 l), (4, .int .i64 i), (6, .ptr 1000 0), (11, .ptr 4002 0), (12, .sl 10 l)], [], [(1000, .cells [.sl 0 d]), (4002, .cells [.sl 0 d])]⟩
structure Pin4 where
  a : Value
  b : Value
  c : Value
  e : Value
def skB (n : Int) (d : List UInt8) (m : Int) (l : List Plan) (i : Int) (x : Pin4) : AS := ⟨mk 169 [(0, .int .i64 n), (2, .int .u8 m), (3, .both (.sl 10 l) (.val x.a)), (4, .int .i64 i), (6, .ptr 1000 0), (11, .ptr 4002 0), (12, .both (.sl 10 l) (.val x.b))], [], [(1000, .cells [.both (.sl 0 d) (.val x.c)]), (4002, .cells [.both (.sl 0 d) (.val x.e)])]⟩
def skC (x : Pin4) : AS := ⟨mk 169 [(3, .val x.a), (6, .ptr 1000 0), (11, .ptr 4002 0), (12, .val x.b)], [], [(1000, .cells [.val x.c]), (4002, .cells [.val x.e])]⟩
def skD (d : List UInt8) (l : List Plan) : AS := ⟨mk 169 [(3, .sl 10 l), (6, .ptr 1000 0), (11, .ptr 4002 0), (12, .sl 10 l)], [], [(1000, .cells [.sl 0 d]), (4002, .cells [.sl 0 d])]⟩
structure Wil (yb : Nat) (n : Nat) (ws : List WB) : Prop where
  c1 : ws.length = n
  c2 : ∀ j : Nat, j < n → yb ≤ (ws.getD j (dflt 16)).nb
  c3 : n ≤ 1048576
theorem wil_yps {yb n : Nat} {ys : List YPut} (h : YPs yb ys) (hl : ys.length = n) (hs : n ≤ 32) : Wil yb n (ys.map YPut.wild) := by
  refine ⟨by rw [List.length_map]; exact hl, fun j hj => ?_, by omega⟩
  have hj' : j < ys.length := by omega
  simp only [List.getD_eq_getElem?_getD, List.getElem?_map, List.getElem?_eq_getElem hj']
  show yb ≤ (ys[j]).nb
  rw [h.h _ (List.getElem_mem hj')]
  exact Nat.le_refl _
def skLoops (x : Pin4) (yb : Nat) : List Nat → Nat → Option LoopAnn := fun s r => match r with
  | 16 => some { V := Int × Nat × List WB, st := fun v => ⟨mk 169 [(3, .val x.a), (6, .ptr 1000 0), (11, .ptr 4002 0), (12, .val x.b), (21, .row 16 10003 0 v.2.1), (29, .int .i64 v.1)], [], [(1000, .cells [.val x.c]), (4002, .cells [.val x.e]), (10003, .row 16 v.2.2)]⟩, I := fun v => (0 ≤ v.1 ∧ v.1 ≤ v.2.1) ∧ Wil yb v.2.1 v.2.2, μ := fun v => (v.2.1 - v.1).toNat, key := fun v => v.1.toNat * 2000000 + v.2.1 }
  | 19 => some { V := Int × Int × Nat × List WB, st := fun v => ⟨mk 169 [(3, .val x.a), (6, .ptr 1000 0), (11, .ptr 4002 0), (12, .val x.b), (21, .row 16 10003 0 v.2.2.1), (29, .int .i64 v.2.1), (30, .int .i64 v.1)], [], [(1000, .cells [.val x.c]), (4002, .cells [.val x.e]), (10003, .row 16 v.2.2.2)]⟩, I := fun v => (0 ≤ v.1 ∧ v.1 ≤ (v.2.2.2.getD v.2.1.toNat (dflt 16)).n) ∧ (0 ≤ v.2.1 ∧ v.2.1 < v.2.2.1) ∧ v.2.1.toNat * 2000000 + v.2.2.1 = s.headD 0 ∧ Wil yb v.2.2.1 v.2.2.2, μ := fun v => ((v.2.2.2.getD v.2.1.toNat (dflt 16)).n - v.1).toNat }
  | _ => none
def lawKeeps : Eng.Spec := { ro := true, own := [], run := fun args _ k => match args with
  | [.int .i64 n, .agg [.sl 0 d], .int .u8 m, .sl 10 l, .int .i64 i] => inK .i64 n ∧ inK .u8 m ∧ inK .i64 i ∧ k (.bool true) [] []
  | _ => False }
end Go.Proofs.Ytcdflgfhkohldaa
