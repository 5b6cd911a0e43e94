/-
A put never writes into the slot that counts: the statement answers true for every input.
-/
import Derived.Test.YtcdflgfhkohldaaSuB
import Derived.Test.YtcdflgfhkohldaaEngR
import Derived.Test.YtcdflgfhkohldaaEngY
import Derived.Test.YtcdflgfhkohldaaRows
namespace Go.Proofs.Ytcdflgfhkohldaa
open Go Go.Eng Go.Rw Go.Lk Go.Proofs
open Go.Bk hiding take_step drop_step set_mid
open Go.St hiding take_step
set_option linter.unusedVariables false
set_option maxHeartbeats 2000000 in
theorem storeSlots_vc (d : List UInt8) (m : Int) (m0 : (0 : Int) ≤ m) (m1 : m ≤ (255 : Int)) (l : List Plan) (w : Int) (w0 : (-9223372036854775808 : Int) ≤ w) (w1 : w ≤ (9223372036854775807 : Int)) (t : Int) (t0 : (-9223372036854775808 : Int) ≤ t) (t1 : t ≤ (9223372036854775807 : Int)) (k : AV → List (Option Blk) → List Blk → Prop) (hk : k (AV.bool true) [] []) :
 ∀ (r_1 : Bool),
 ((r_1 = false) →
 (d.length ≤ (5000 : Nat))) →
 br (bif bif bif r_1 then true else decide (w < (0 : Int)) then true else decide (t < (0 : Int)) then true else decide (t > (64 : Int)))
 ((k (AV.bool true) [] []))
 (∀ (e_3 : Int),
  ∀ (g_4 : Int),
  ∀ (m_5 : Int),
  ∀ (ps_6 : List Plan),
  (RdR d e_3 g_4 m_5 ps_6) →
  ((0 : Int) ≤ e_3 ∧ e_3 ≤ (190 : Int)) →
  ((0 : Int) ≤ g_4 ∧ g_4 ≤ (4611686018427387903 : Int)) →
  ((0 : Int) ≤ m_5 ∧ m_5 ≤ (3 : Int)) →
  (ps_6.length ≤ (8 : Nat)) →
  (
  ((0 : Int) ≤ m) ∧
  (m ≤ (255 : Int))) ∧
  ∀ (e_12 : Int),
  ∀ (ps_13 : List Put),
  (PtR d m l e_12 ps_13) →
  ((0 : Int) ≤ e_12 ∧ e_12 ≤ (190 : Int)) →
  (ps_13.length ≤ (32 : Nat)) →
  ∀ (n17 : Int),
  (n17 = (↑ps_13.length : Int)) →
  br (bif bif e_3 != (0 : Int) then true else e_12 != (0 : Int) then true else decide (w > n17))
  ((k (AV.bool true) [] []))
  ((
   (d.length ≤ (1000000 : Nat)) ∧
   (ps_13.length ≤ (1000000 : Nat))) ∧
   ∀ (e_19 : Int),
   ∀ (ys_20 : List UInt8),
   (e_19 = doE d ps_13 w t) →
   (ys_20 = doO d ps_13 w t) →
   (ys_20.length ≤ d.length) →
   ∀ (e_24 : Int),
   ∀ (g_25 : Int),
   ∀ (m_26 : Int),
   ∀ (ps_27 : List Plan),
   (SlR ys_20 (0 : Int) e_24 g_25 m_26 ps_27) →
   ((0 : Int) ≤ e_24 ∧ e_24 ≤ (190 : Int)) →
   ((0 : Int) ≤ g_25 ∧ g_25 ≤ (4611686018427387903 : Int)) →
   ((0 : Int) ≤ m_26 ∧ m_26 ≤ (3 : Int)) →
   (ps_27.length ≤ (8 : Nat)) →
   ∀ (e_33 : Int),
   ∀ (g_34 : Int),
   ∀ (m_35 : Int),
   ∀ (ps_36 : List Plan),
   (SlR ys_20 (1 : Int) e_33 g_34 m_35 ps_36) →
   ((0 : Int) ≤ e_33 ∧ e_33 ≤ (190 : Int)) →
   ((0 : Int) ≤ g_34 ∧ g_34 ≤ (4611686018427387903 : Int)) →
   ((0 : Int) ≤ m_35 ∧ m_35 ≤ (3 : Int)) →
   (ps_36.length ≤ (8 : Nat)) →
   ∀ (n42 : Int),
   (n42 = g_25) →
   ∀ (n44 : Int),
   (n44 = g_4) →
   ∀ (n46 : Int),
   (n46 = m_26) →
   ∀ (n48 : Int),
   (n48 = m_5) →
   br (bif bif e_24 == (0 : Int) then n42 == n44 else false then n46 == n48 else false)
   (∀ (r_50 : Bool),
    (r_50 = true ↔ ps_27 = ps_6) →
    ∀ (n52 : Int),
    (n52 = g_34) →
    ∀ (n54 : Int),
    (n54 = g_4) →
    ∀ (n56 : Int),
    (n56 = m_35) →
    ∀ (n58 : Int),
    (n58 = m_5) →
    br (bif bif e_33 == (0 : Int) then n52 == n54 else false then n56 == n58 else false)
    (∀ (r_60 : Bool),
     (r_60 = true ↔ ps_36 = ps_6) →
     (k (AV.bool (bif bif true then e_19 == (0 : Int) else false then bif bif true then r_50 else false then true else bif true then r_60 else false else false)) [] []))
    ((false = false) ∧
     (k (AV.bool (bif bif true then e_19 == (0 : Int) else false then bif bif true then r_50 else false then true else false else false)) [] [])))
   ((false = false) ∧
    ∀ (n62 : Int),
    (n62 = g_34) →
    ∀ (n64 : Int),
    (n64 = g_4) →
    ∀ (n66 : Int),
    (n66 = m_35) →
    ∀ (n68 : Int),
    (n68 = m_5) →
    br (bif bif e_33 == (0 : Int) then n62 == n64 else false then n66 == n68 else false)
    (∀ (r_70 : Bool),
     (r_70 = true ↔ ps_36 = ps_6) →
     (k (AV.bool (bif bif true then e_19 == (0 : Int) else false then bif false then true else bif true then r_70 else false else false)) [] []))
    ((false = false) ∧
     (k (AV.bool (bif bif true then e_19 == (0 : Int) else false then bif false then true else false else false)) [] []))))) := by
 intro r_1
 intro h1
 refine br_intro (fun c2 => ?_) (fun c2 => ?_)
 ·
  simp at c2
  exact hk
 ·
  simp at c2
  intro e_3
  intro g_4
  intro m_5
  intro ps_6
  intro h3
  intro ⟨a4, b4⟩
  intro ⟨a5, b5⟩
  intro ⟨a6, b6⟩
  intro h7
  refine ⟨by exact ⟨by assumption, by assumption⟩, ?_⟩
  intro e_12
  intro ps_13
  intro h8
  intro ⟨a9, b9⟩
  intro h10
  intro n17
  intro q17
  refine br_intro (fun c11 => ?_) (fun c11 => ?_)
  ·
   simp at c11
   exact hk
  ·
   simp at c11
   refine ⟨?_, ?_⟩
   ·
    have h12 : d.length ≤ (1000000 : Nat) := by
     have := h1 c2.1.1.1
     omega
    refine ⟨h12, ?_⟩
    exact by omega
   intro e_19
   intro ys_20
   intro h13
   intro h14
   intro h15
   intro e_24
   intro g_25
   intro m_26
   intro ps_27
   intro h16
   intro ⟨a17, b17⟩
   intro ⟨a18, b18⟩
   intro ⟨a19, b19⟩
   intro h20
   intro e_33
   intro g_34
   intro m_35
   intro ps_36
   intro h21
   intro ⟨a22, b22⟩
   intro ⟨a23, b23⟩
   intro ⟨a24, b24⟩
   intro h25
   intro n42
   intro q42
   intro n44
   intro q44
   intro n46
   intro q46
   intro n48
   intro q48
   refine br_intro (fun c26 => ?_) (fun c26 => ?_)
   ·
    simp at c26
    intro r_50
    intro h27
    intro n52
    intro q52
    intro n54
    intro q54
    intro n56
    intro q56
    intro n58
    intro q58
    refine br_intro (fun c28 => ?_) (fun c28 => ?_)
    ·
     simp at c28
     intro r_60
     intro h29
     rw [c11.1.2] at h8
     obtain ⟨S1, S2⟩ := slots_law h8 (by omega) (by omega) (by omega) h14 h3 c11.1.1 h16 h21
     have E0 : e_19 = 0 := h13.trans S1
     refine k_true hk ?_
     rw [E0]
     rcases S2 with ⟨a1, a2, a3, a4⟩ | ⟨a1, a2, a3, a4⟩
     ·
      have hr := h27.2 a4
      rw [hr]
      simp
     ·
      have hr := h29.2 a4
      rw [hr]
      simp
    ·
     simp at c28
     refine ⟨by with_reducible rfl, ?_⟩
     rw [c11.1.2] at h8
     obtain ⟨S1, S2⟩ := slots_law h8 (by omega) (by omega) (by omega) h14 h3 c11.1.1 h16 h21
     have E0 : e_19 = 0 := h13.trans S1
     refine k_true hk ?_
     rw [E0]
     rcases S2 with ⟨a1, a2, a3, a4⟩ | ⟨a1, a2, a3, a4⟩
     ·
      have hr := h27.2 a4
      rw [hr]
      simp
     ·
      exact absurd (show n56 = n58 by omega) (c28 a1 (by omega))
   ·
    simp at c26
    refine ⟨by with_reducible rfl, ?_⟩
    intro n62
    intro q62
    intro n64
    intro q64
    intro n66
    intro q66
    intro n68
    intro q68
    refine br_intro (fun c30 => ?_) (fun c30 => ?_)
    ·
     simp at c30
     intro r_70
     intro h31
     rw [c11.1.2] at h8
     obtain ⟨S1, S2⟩ := slots_law h8 (by omega) (by omega) (by omega) h14 h3 c11.1.1 h16 h21
     have E0 : e_19 = 0 := h13.trans S1
     refine k_true hk ?_
     rw [E0]
     rcases S2 with ⟨a1, a2, a3, a4⟩ | ⟨a1, a2, a3, a4⟩
     ·
      exact absurd (show n46 = n48 by omega) (c26 a1 (by omega))
     ·
      have hr := h31.2 a4
      rw [hr]
      simp
    ·
     simp at c30
     refine ⟨by with_reducible rfl, ?_⟩
     rw [c11.1.2] at h8
     obtain ⟨S1, S2⟩ := slots_law h8 (by omega) (by omega) (by omega) h14 h3 c11.1.1 h16 h21
     have E0 : e_19 = 0 := h13.trans S1
     refine k_true hk ?_
     rw [E0]
     rcases S2 with ⟨a1, a2, a3, a4⟩ | ⟨a1, a2, a3, a4⟩
     ·
      exact absurd (show n46 = n48 by omega) (c26 a1 (by omega))
     ·
      exact absurd (show n66 = n68 by omega) (c30 a1 (by omega))

theorem storeSlots_ok : Holds Try.prog 9 lawTornS := by
  refine fn_sound (env := mkEnv H8) (tab_ok H8_ok) Try.func9 Try.call9 fun args k h => ?_
  match args, h with
  | [.agg [.sl 0 d], .int .u8 m, .sl 10 l, .int .i64 w, .int .i64 t], h => exact ⟨by kernel_rfl, fun _ _ => none, fun _ _ => none, .cast (by kernel_rfl) (storeSlots_vc d m h.1.1 h.1.2 l w h.2.1.1 h.2.1.2 t h.2.2.1.1 h.2.2.1.2 k h.2.2.2)⟩
end Go.Proofs.Ytcdflgfhkohldaa
namespace Go.Proofs.Ytcdflgfhkohldaa
open Go.ChangeShapes Go.WideShapes Go.ChangeAt Go.RowKit Go.Eng
set_option linter.unusedVariables false

theorem ownS : ownKnob Try.prog.godebug = none := by kernel_rfl
theorem laidS : laidOutB Try.prog = true := by kernel_rfl

set_option maxHeartbeats 800000 in
set_option maxRecDepth 100000 in
theorem storeSlotsLifted (os : Os) (started : os.Started) (H : Type) (enc : TypeId × Value → H) :
    ReturnsInHanded {} Try.checked os 9 .any (Rows.storeSlotsSpec.pre6 enc Try.prog Try.f9 Rows.storeSlotsRow.domain false) (Rows.storeSlotsSpec.post enc Try.prog Try.f9 false true false false) := by
  refine returnsInHanded_of_change (C := Try.checked) ownS started (by kernel_rfl) Try.func9
    (ChangeSpec.witness6 (enc := enc) (C := Try.checked) false ⟨#[], #[.agg #[.slice none 0 0], .int .u8 0, .slice none 0 0, .int .i64 0, .int .i64 0], []⟩ 8 (by kernel_rfl) (by kernel_rfl) (by kernel_rfl) (by kernel_rfl)) ?_
  intro W base args ds gs before hval0 hW hcnd _
  have hval : ∀ (j : Nat) t v, Try.f9.params[j]? = some t → args[j]? = some v → Value.okWide Try.prog W .any base t v := hval0
  have hW' := hW
  obtain ⟨p, q, hA0, hV, rfl, hfz, hnd⟩ := hW
  have hA : DataW.TrodAll enc Try.prog W 0 (fun _ => true) true Try.f9.params.toList args.toList ds p := hA0
  rw [Try.params9] at hA hval
  obtain ⟨v0, vs0, d0, ds0, p0, q0, hargs, rfl, rfl, h0, r0⟩ := trodAll_cons hA
  obtain ⟨v1, vs1, d1, ds1, p1, q1, rfl, rfl, rfl, h1, r1⟩ := trodAll_cons r0
  obtain ⟨v2, vs2, d2, ds2, p2, q2, rfl, rfl, rfl, h2, r2⟩ := trodAll_cons r1
  obtain ⟨v3, vs3, d3, ds3, p3, q3, rfl, rfl, rfl, h3, r3⟩ := trodAll_cons r2
  obtain ⟨v4, vs4, d4, ds4, p4, q4, rfl, rfl, rfl, h4, r4⟩ := trodAll_cons r3
  obtain ⟨rfl, rfl, rfl⟩ := trodAll_nil r4
  obtain rfl : args = #[v0, v1, v2, v3, v4] := by cases args; simp_all
  obtain ⟨rfl, rfl⟩ := trodVars_none hV
  have k0 := h0
  have lt0 : ∀ x ∈ p0, x.block < W.heap.size := by obtain ⟨m, hm⟩ := k0; exact DataW.trod_lt m _ _ _ hm
  obtain ⟨fuel0, hf0⟩ := h0
  obtain ⟨cs0, rfl, hsz0, hcs0⟩ := open_scal Try.underlying35 (by kernel_rfl) (by kernel_rfl) (hval 0 35 v0 rfl rfl) hf0
  obtain ⟨c0_0, rfl⟩ : ∃ b0, cs0 = #[b0] := by
    exact arr1 hsz0
  obtain ⟨n0_0, y0_0, hy0_0⟩ := hcs0 0 _ _ rfl rfl
  obtain ⟨u0_0, xs0_0, e0_0, o0_0, w0_0, -⟩ := rep_slice (c := 0) (by decide) Try.underlying32 (by kernel_rfl) (cells_u8 Try.underlying5) hy0_0
  obtain rfl : c0_0 = u0_0 := by simpa using e0_0
  obtain ⟨a1, rfl, rfl, rfl, w1⟩ := open_int Try.underlying5 (hval 1 5 v1 rfl rfl) h1
  have k2 := h2
  have lt2 : ∀ x ∈ p2, x.block < W.heap.size := by obtain ⟨m, hm⟩ := k2; exact DataW.trod_lt m _ _ _ hm
  obtain ⟨xs2, w2, z2⟩ : ∃ xs : List (ty 10), Rep W (· < W.heap.size) noIds v2 (.sl 10 xs) ∧ DSz ZPlan d2 xs := by
    obtain ⟨fuel, hf⟩ := h2
    exact rep_in (c := 10) (by decide) Try.underlying22 (by kernel_rfl) (cells_plan Try.underlying71 (by kernel_rfl) rfl Try.underlying3 Try.underlying3 Try.underlying69 Try.underlying3 (by kernel_rfl) (by kernel_rfl) (by kernel_rfl) (by kernel_rfl)) (hval 2 22 v2 rfl rfl) hf
  obtain ⟨a3, rfl, rfl, rfl, w3⟩ := open_int Try.underlying3 (hval 3 3 v3 rfl rfl) h3
  obtain ⟨a4, rfl, rfl, rfl, w4⟩ := open_int Try.underlying3 (hval 4 3 v4 rfl rfl) h4
  clear hA0 hval0
  have hk1 : kwf .u8 a1 := by simpa [Lit.wf, kwf] using w1
  have hk3 : kwf .i64 a3 := by simpa [Lit.wf, kwf] using w3
  have hk4 : kwf .i64 a4 := by simpa [Lit.wf, kwf] using w4
  refine (calls_of_holds storeSlots_ok Try.call9 (w := W) (vals := #[.agg #[c0_0], .int .u8 a1, v2, .int .i64 a3, .int .i64 a4]) (args := [.agg [.sl 0 xs0_0], .int .u8 a1, .sl 10 xs2, .int .i64 a3, .int .i64 a4]) rfl (fun j v hj => ?_) ⟨hk1, hk3, hk4, rfl⟩).mono fun e W' ⟨he, bel⟩ => ?_
  · rcases j with _ | _ | _ | _ | _ | j
    · simp at hj; subst hj; refine .agg rfl (fun j v h => ?_) (fun j v h => ?_) <;> rcases j with _ | j <;> simp at h <;> subst h <;> first | rfl | exact .bool | exact .int (by assumption) | assumption
    · simp at hj; subst hj; exact .int hk1
    · simp at hj; subst hj; exact w2
    · simp at hj; subst hj; exact .int hk3
    · simp at hj; subst hj; exact .int hk4
    · simp at hj
  subst he
  exact ⟨_, rfl, _, _, _, [], _, [], hW', trodAll_mk1 (shut_bool Try.underlying4 _), (trodAll_cons_mk (Below.trod laidS (by kernel_rfl) (of_decide_eq_true (by kernel_rfl)) k0 bel lt0) (trodAll_cons_mk (shut_int Try.underlying5 w1) (trodAll_cons_mk (Below.trod laidS (by kernel_rfl) (of_decide_eq_true (by kernel_rfl)) k2 bel lt2) (trodAll_cons_mk (shut_int Try.underlying3 w3) (trodAll_cons_mk (shut_int Try.underlying3 w4) trodAll_mk0))))), rfl, bel.frame _, fun h => by cases h⟩

theorem storeSlots_said : Rows.StoreSlotsSaid :=
  OpenClaim.holds_of_wide 9 Try.f9 rfl rfl rfl rfl rfl rfl rfl ⟨rfl, rfl, rfl, rfl, rfl⟩ rfl rfl rfl rfl rfl (by kernel_rfl) Try.func9 (by kernel_rfl)
    (of_decide_eq_true (by kernel_rfl)) (by unfold Func.isWrapper; first | (rw [if_pos (by decide +kernel)]; kernel_rfl) | (rw [if_neg (by decide +kernel)]; exact ⟨rfl, rfl⟩))
    (fun os started H enc _ => storeSlotsLifted os started H enc)
#print axioms storeSlots_said
end Go.Proofs.Ytcdflgfhkohldaa


