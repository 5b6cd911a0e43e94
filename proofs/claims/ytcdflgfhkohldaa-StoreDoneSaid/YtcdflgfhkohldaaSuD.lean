/-
Behind all writes just what was put is kept: the statement answers true for every input.
-/
import Derived.Test.YtcdflgfhkohldaaSuB
import Derived.Test.YtcdflgfhkohldaaEngR
import Derived.Test.YtcdflgfhkohldaaEngY
import Derived.Test.YtcdflgfhkohldaaRows
namespace Go.Proofs.Ytcdflgfhkohldaa
open Go Go.Eng Go.Rw Go.Lk Go.Proofs
open Go.Bk hiding take_step drop_step set_mid
open Go.St hiding take_step
set_option linter.unusedVariables false
set_option maxHeartbeats 2000000 in
theorem storeDone_vc (d : List UInt8) (m : Int) (m0 : (0 : Int) ≤ m) (m1 : m ≤ (255 : Int)) (l : List Plan) (k : AV → List (Option Blk) → List Blk → Prop) (hk : k (AV.bool true) [] []) :
 ∀ (r_1 : Bool),
 ((r_1 = false) →
 (d.length ≤ (5000 : Nat))) →
 br (r_1)
 ((k (AV.bool true) [] []))
 (∀ (e_3 : Int),
  ∀ (g_4 : Int),
  ∀ (m_5 : Int),
  ∀ (ps_6 : List Plan),
  (RdR d e_3 g_4 m_5 ps_6) →
  ((0 : Int) ≤ e_3 ∧ e_3 ≤ (190 : Int)) →
  ((0 : Int) ≤ g_4 ∧ g_4 ≤ (4611686018427387903 : Int)) →
  ((0 : Int) ≤ m_5 ∧ m_5 ≤ (3 : Int)) →
  (ps_6.length ≤ (8 : Nat)) →
  (
  (
   ((0 : Int) ≤ m) ∧
   (m ≤ (255 : Int))) ∧
  (d.length ≤ (1000000 : Nat)) ∧
  ((-9223372036854775808 : Int) ≤ (99 : Int)) ∧
  ((99 : Int) ≤ (9223372036854775807 : Int))) ∧
  ∀ (n12 : List UInt8),
  ∀ (b_13 : Bool),
  (DnR d m l (99 : Int) (0 : Int) n12 b_13) →
  (n12.length ≤ d.length) →
  br (!b_13)
  ((k (AV.bool true) [] []))
  (∀ (e_16 : Int),
   ∀ (g_17 : Int),
   ∀ (m_18 : Int),
   ∀ (ps_19 : List Plan),
   (RdR n12 e_16 g_17 m_18 ps_19) →
   ((0 : Int) ≤ e_16 ∧ e_16 ≤ (190 : Int)) →
   ((0 : Int) ≤ g_17 ∧ g_17 ≤ (4611686018427387903 : Int)) →
   ((0 : Int) ≤ m_18 ∧ m_18 ≤ (3 : Int)) →
   (ps_19.length ≤ (8 : Nat)) →
   ∀ (n25 : Int),
   (n25 = m_18) →
   br (bif bif true then e_16 == (0 : Int) else false then n25 == m else false)
   (∀ (r_27 : Bool),
    (r_27 = true ↔ ps_19 = l) →
    ∀ (n29 : Int),
    (n29 = g_17) →
    ∀ (n31 : Int),
    (n31 = g_17) →
    ∀ (n33 : Int),
    (n33 = g_4) →
    (k (AV.bool (bif bif true then r_27 else false then bif bif e_3 != (0 : Int) then decide (n29 ≥ (1 : Int)) else false then true else decide (n31 > n33) else false)) [] []))
   ((false = false) ∧
    ∀ (n35 : Int),
    (n35 = g_17) →
    ∀ (n37 : Int),
    (n37 = g_17) →
    ∀ (n39 : Int),
    (n39 = g_4) →
    (k (AV.bool (bif false then bif bif e_3 != (0 : Int) then decide (n35 ≥ (1 : Int)) else false then true else decide (n37 > n39) else false)) [] [])))) := by
 intro r_1
 intro h1
 refine br_intro (fun c2 => ?_) (fun c2 => ?_)
 ·
  exact hk
 ·
  intro e_3
  intro g_4
  intro m_5
  intro ps_6
  intro h3
  intro ⟨a4, b4⟩
  intro ⟨a5, b5⟩
  intro ⟨a6, b6⟩
  intro h7
  refine ⟨?_, ?_⟩
  ·
   refine ⟨by exact ⟨by assumption, by assumption⟩, ?_⟩
   have h8 : d.length ≤ (1000000 : Nat) := by
    have := h1 (by assumption)
    omega
   refine ⟨h8, ?_⟩
   refine ⟨by first | omega | (dsimp only; omega), ?_⟩
   exact by omega
  intro n12
  intro b_13
  intro h9
  intro h10
  refine br_intro (fun c11 => ?_) (fun c11 => ?_)
  ·
   simp at c11
   exact hk
  ·
   simp at c11
   intro e_16
   intro g_17
   intro m_18
   intro ps_19
   intro h12
   intro ⟨a13, b13⟩
   intro ⟨a14, b14⟩
   intro ⟨a15, b15⟩
   intro h16
   intro n25
   intro q25
   refine br_intro (fun c17 => ?_) (fun c17 => ?_)
   ·
    simp at c17
    intro r_27
    intro h18
    intro n29
    intro q29
    intro n31
    intro q31
    intro n33
    intro q33
    obtain ⟨r0, R, R1, R2⟩ := dn_done h9 c11 (by omega) h3
    obtain ⟨u1, u2, u3, u4⟩ := h12.uniq R
    have hr : r_27 = true := h18.2 u4
    refine k_true hk ?_
    rw [hr]
    by_cases z : e_3 = 0
    ·
     have := R2 z
     simp [z]
     omega
    ·
     simp [z]
     omega
   ·
    simp at c17
    refine ⟨by with_reducible rfl, ?_⟩
    intro n35
    intro q35
    intro n37
    intro q37
    intro n39
    intro q39
    obtain ⟨r0, R, R1, R2⟩ := dn_done h9 c11 (by omega) h3
    obtain ⟨u1, u2, u3, u4⟩ := h12.uniq R
    exact absurd (show n25 = m by omega) (c17 u1)

theorem storeDone_ok : Holds Try.prog 5 lawDone := by
  refine fn_sound (env := mkEnv H8) (tab_ok H8_ok) Try.func5 Try.call5 fun args k h => ?_
  match args, h with
  | [.agg [.sl 0 d], .int .u8 m, .sl 10 l], h => exact ⟨by kernel_rfl, fun _ _ => none, fun _ _ => none, .cast (by kernel_rfl) (storeDone_vc d m h.1.1 h.1.2 l k h.2)⟩
end Go.Proofs.Ytcdflgfhkohldaa
namespace Go.Proofs.Ytcdflgfhkohldaa
open Go.ChangeShapes Go.WideShapes Go.ChangeAt Go.RowKit Go.Eng
set_option linter.unusedVariables false

theorem ownD : ownKnob Try.prog.godebug = none := by kernel_rfl
theorem laidD : laidOutB Try.prog = true := by kernel_rfl

set_option maxHeartbeats 800000 in
set_option maxRecDepth 100000 in
theorem storeDoneLifted (os : Os) (started : os.Started) (H : Type) (enc : TypeId × Value → H) :
    ReturnsInHanded {} Try.checked os 5 .any (Rows.storeDoneSpec.pre6 enc Try.prog Try.f5 Rows.storeDoneRow.domain false) (Rows.storeDoneSpec.post enc Try.prog Try.f5 false true false false) := by
  refine returnsInHanded_of_change (C := Try.checked) ownD started (by kernel_rfl) Try.func5
    (ChangeSpec.witness6 (enc := enc) (C := Try.checked) false ⟨#[], #[.agg #[.slice none 0 0], .int .u8 0, .slice none 0 0], []⟩ 8 (by kernel_rfl) (by kernel_rfl) (by kernel_rfl) (by kernel_rfl)) ?_
  intro W base args ds gs before hval0 hW hcnd _
  have hval : ∀ (j : Nat) t v, Try.f5.params[j]? = some t → args[j]? = some v → Value.okWide Try.prog W .any base t v := hval0
  have hW' := hW
  obtain ⟨p, q, hA0, hV, rfl, hfz, hnd⟩ := hW
  have hA : DataW.TrodAll enc Try.prog W 0 (fun _ => true) true Try.f5.params.toList args.toList ds p := hA0
  rw [Try.params5] at hA hval
  obtain ⟨v0, vs0, d0, ds0, p0, q0, hargs, rfl, rfl, h0, r0⟩ := trodAll_cons hA
  obtain ⟨v1, vs1, d1, ds1, p1, q1, rfl, rfl, rfl, h1, r1⟩ := trodAll_cons r0
  obtain ⟨v2, vs2, d2, ds2, p2, q2, rfl, rfl, rfl, h2, r2⟩ := trodAll_cons r1
  obtain ⟨rfl, rfl, rfl⟩ := trodAll_nil r2
  obtain rfl : args = #[v0, v1, v2] := by cases args; simp_all
  obtain ⟨rfl, rfl⟩ := trodVars_none hV
  have k0 := h0
  have lt0 : ∀ x ∈ p0, x.block < W.heap.size := by obtain ⟨m, hm⟩ := k0; exact DataW.trod_lt m _ _ _ hm
  obtain ⟨fuel0, hf0⟩ := h0
  obtain ⟨cs0, rfl, hsz0, hcs0⟩ := open_scal Try.underlying35 (by kernel_rfl) (by kernel_rfl) (hval 0 35 v0 rfl rfl) hf0
  obtain ⟨c0_0, rfl⟩ : ∃ b0, cs0 = #[b0] := by
    exact arr1 hsz0
  obtain ⟨n0_0, y0_0, hy0_0⟩ := hcs0 0 _ _ rfl rfl
  obtain ⟨u0_0, xs0_0, e0_0, o0_0, w0_0, -⟩ := rep_slice (c := 0) (by decide) Try.underlying32 (by kernel_rfl) (cells_u8 Try.underlying5) hy0_0
  obtain rfl : c0_0 = u0_0 := by simpa using e0_0
  obtain ⟨a1, rfl, rfl, rfl, w1⟩ := open_int Try.underlying5 (hval 1 5 v1 rfl rfl) h1
  have k2 := h2
  have lt2 : ∀ x ∈ p2, x.block < W.heap.size := by obtain ⟨m, hm⟩ := k2; exact DataW.trod_lt m _ _ _ hm
  obtain ⟨xs2, w2, z2⟩ : ∃ xs : List (ty 10), Rep W (· < W.heap.size) noIds v2 (.sl 10 xs) ∧ DSz ZPlan d2 xs := by
    obtain ⟨fuel, hf⟩ := h2
    exact rep_in (c := 10) (by decide) Try.underlying22 (by kernel_rfl) (cells_plan Try.underlying71 (by kernel_rfl) rfl Try.underlying3 Try.underlying3 Try.underlying69 Try.underlying3 (by kernel_rfl) (by kernel_rfl) (by kernel_rfl) (by kernel_rfl)) (hval 2 22 v2 rfl rfl) hf
  clear hA0 hval0
  have hk1 : kwf .u8 a1 := by simpa [Lit.wf, kwf] using w1
  refine (calls_of_holds storeDone_ok Try.call5 (w := W) (vals := #[.agg #[c0_0], .int .u8 a1, v2]) (args := [.agg [.sl 0 xs0_0], .int .u8 a1, .sl 10 xs2]) rfl (fun j v hj => ?_) ⟨hk1, rfl⟩).mono fun e W' ⟨he, bel⟩ => ?_
  · rcases j with _ | _ | _ | j
    · simp at hj; subst hj; refine .agg rfl (fun j v h => ?_) (fun j v h => ?_) <;> rcases j with _ | j <;> simp at h <;> subst h <;> first | rfl | exact .bool | exact .int (by assumption) | assumption
    · simp at hj; subst hj; exact .int hk1
    · simp at hj; subst hj; exact w2
    · simp at hj
  subst he
  exact ⟨_, rfl, _, _, _, [], _, [], hW', trodAll_mk1 (shut_bool Try.underlying4 _), (trodAll_cons_mk (Below.trod laidD (by kernel_rfl) (of_decide_eq_true (by kernel_rfl)) k0 bel lt0) (trodAll_cons_mk (shut_int Try.underlying5 w1) (trodAll_cons_mk (Below.trod laidD (by kernel_rfl) (of_decide_eq_true (by kernel_rfl)) k2 bel lt2) trodAll_mk0))), rfl, bel.frame _, fun h => by cases h⟩

theorem storeDone_said : Rows.StoreDoneSaid :=
  OpenClaim.holds_of_wide 5 Try.f5 rfl rfl rfl rfl rfl rfl rfl ⟨rfl, rfl, rfl, rfl, rfl⟩ rfl rfl rfl rfl rfl (by kernel_rfl) Try.func5 (by kernel_rfl)
    (of_decide_eq_true (by kernel_rfl)) (by unfold Func.isWrapper; first | (rw [if_pos (by decide +kernel)]; kernel_rfl) | (rw [if_neg (by decide +kernel)]; exact ⟨rfl, rfl⟩))
    (fun os started H enc _ => storeDoneLifted os started H enc)
#print axioms storeDone_said
end Go.Proofs.Ytcdflgfhkohldaa


