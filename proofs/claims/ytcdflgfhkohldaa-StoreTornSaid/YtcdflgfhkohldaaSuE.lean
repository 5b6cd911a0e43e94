/-
Wherever the writes are broken off, what was kept is kept still, or just what is put: the statement answers true for every input.
-/
import Derived.Test.YtcdflgfhkohldaaSuB
import Derived.Test.YtcdflgfhkohldaaEngR
import Derived.Test.YtcdflgfhkohldaaEngY
import Derived.Test.YtcdflgfhkohldaaRows
namespace Go.Proofs.Ytcdflgfhkohldaa
open Go Go.Eng Go.Rw Go.Lk Go.Proofs
open Go.Bk hiding take_step drop_step set_mid
open Go.St hiding take_step
set_option linter.unusedVariables false
set_option maxHeartbeats 2000000 in
theorem storeTorn_vc (d : List UInt8) (m : Int) (m0 : (0 : Int) ≤ m) (m1 : m ≤ (255 : Int)) (l : List Plan) (w : Int) (w0 : (-9223372036854775808 : Int) ≤ w) (w1 : w ≤ (9223372036854775807 : Int)) (t : Int) (t0 : (-9223372036854775808 : Int) ≤ t) (t1 : t ≤ (9223372036854775807 : Int)) (k : AV → List (Option Blk) → List Blk → Prop) (hk : k (AV.bool true) [] []) :
 ∀ (r_1 : Bool),
 ((r_1 = false) →
 (d.length ≤ (5000 : Nat))) →
 br (bif bif bif r_1 then true else decide (w < (0 : Int)) then true else decide (t < (0 : Int)) then true else decide (t > (64 : Int)))
 ((k (AV.bool true) [] []))
 ((
  ((0 : Int) ≤ m) ∧
  (m ≤ (255 : Int))) ∧
  ∀ (e_3 : Int),
  ∀ (ps_4 : List Put),
  (PtR d m l e_3 ps_4) →
  ((0 : Int) ≤ e_3 ∧ e_3 ≤ (190 : Int)) →
  (ps_4.length ≤ (32 : Nat)) →
  ∀ (n8 : Int),
  (n8 = (↑ps_4.length : Int)) →
  br (bif e_3 != (0 : Int) then true else decide (w > n8))
  ((k (AV.bool true) [] []))
  ((
   (d.length ≤ (1000000 : Nat)) ∧
   (ps_4.length ≤ (1000000 : Nat))) ∧
   ∀ (e_10 : Int),
   ∀ (ys_11 : List UInt8),
   (e_10 = doE d ps_4 w t) →
   (ys_11 = doO d ps_4 w t) →
   (ys_11.length ≤ d.length) →
   ∀ (n15 : Int),
   (n15 = (↑ps_4.length : Int)) →
   ((-9223372036854775808 : Int) ≤ n15 ∧ n15 ≤ (9223372036854775807 : Int)) →
   (
   (d.length ≤ (1000000 : Nat)) ∧
   (ps_4.length ≤ (1000000 : Nat))) ∧
   ∀ (e_18 : Int),
   ∀ (ys_19 : List UInt8),
   (e_18 = doE d ps_4 n15 (0 : Int)) →
   (ys_19 = doO d ps_4 n15 (0 : Int)) →
   (ys_19.length ≤ d.length) →
   br (bif e_10 != (0 : Int) then true else e_18 != (0 : Int))
   ((k (AV.bool false) [] []))
   (∀ (n23 : Int),
    (n23 = (↑ps_4.length : Int)) →
    ((-9223372036854775808 : Int) ≤ n23 ∧ n23 ≤ (9223372036854775807 : Int)) →
    br (w == n23)
    (∀ (r_26 : Bool),
     (r_26 = true ↔ SameD ys_11 ys_19) →
     (k (AV.bool (bif true then r_26 else false)) [] []))
    (∀ (r_28 : Bool),
     (r_28 = true ↔ SameD ys_11 d) →
     br (r_28)
     (∀ (n30 : Int),
      (n30 = (↑ps_4.length : Int)) →
      ∀ (n32 : Int),
      (n32 = IntKind.i64.wrap (n30 - (1 : Int))) →
      (
      (true = true) →
      (true = true)) ∧
      (k (AV.bool (bif true then true else false)) [] []))
     (∀ (r_33 : Bool),
      (r_33 = true ↔ SameD ys_11 ys_19) →
      ∀ (n35 : Int),
      (n35 = (↑ps_4.length : Int)) →
      ∀ (n37 : Int),
      (n37 = IntKind.i64.wrap (n35 - (1 : Int))) →
      (k (AV.bool (bif true then bif false then true else bif bif r_33 then decide (t > (0 : Int)) else false then w == n37 else false else false)) [] [])))))) := by
 intro r_1
 intro h1
 refine br_intro (fun c2 => ?_) (fun c2 => ?_)
 ·
  simp at c2
  exact hk
 ·
  simp at c2
  refine ⟨by exact ⟨by assumption, by assumption⟩, ?_⟩
  intro e_3
  intro ps_4
  intro h3
  intro ⟨a4, b4⟩
  intro h5
  intro n8
  intro q8
  refine br_intro (fun c6 => ?_) (fun c6 => ?_)
  ·
   simp at c6
   exact hk
  ·
   simp at c6
   refine ⟨?_, ?_⟩
   ·
    have h7 : d.length ≤ (1000000 : Nat) := by
     have := h1 c2.1.1.1
     omega
    refine ⟨h7, ?_⟩
    exact by omega
   intro e_10
   intro ys_11
   intro h8
   intro h9
   intro h10
   intro n15
   intro q15
   intro ⟨l15, u15⟩
   refine ⟨?_, ?_⟩
   ·
    have h11 : d.length ≤ (1000000 : Nat) := by
     have := h1 c2.1.1.1
     omega
    refine ⟨h11, ?_⟩
    exact by omega
   intro e_18
   intro ys_19
   intro h12
   intro h13
   intro h14
   refine br_intro (fun c15 => ?_) (fun c15 => ?_)
   ·
    simp at c15
    rw [c6.1] at h3
    rw [q15] at h12 h13
    obtain ⟨T1, T2, T3, T4⟩ := torn_law h3 (by omega) (by omega) (by omega) h9 h13
    exfalso
    rcases c15 with c | c
    ·
     exact c (h8.trans T1)
    ·
     exact c (h12.trans T2)
   ·
    simp at c15
    intro n23
    intro q23
    intro ⟨l23, u23⟩
    refine br_intro (fun c16 => ?_) (fun c16 => ?_)
    ·
     simp at c16
     intro r_26
     intro h17
     rw [c6.1] at h3
     rw [q15] at h12 h13
     obtain ⟨T1, T2, T3, T4⟩ := torn_law h3 (by omega) (by omega) (by omega) h9 h13
     have hr : r_26 = true := h17.2 (T3 (by omega))
     rw [hr]
     exact hk
    ·
     simp at c16
     intro r_28
     intro h18
     refine br_intro (fun c19 => ?_) (fun c19 => ?_)
     ·
      intro n30
      intro q30
      intro n32
      intro q32
      first | (rw [wrI64] at q32; rotate_left 1; · omega) | rw [IntKind.wrap_i64] at q32
      refine ⟨?_, ?_⟩
      ·
       intro q32
       simp at q32
       exact by with_reducible rfl
      exact hk
     ·
      intro r_33
      intro h20
      intro n35
      intro q35
      intro n37
      intro q37
      first | (rw [wrI64] at q37; rotate_left 1; · omega) | rw [IntKind.wrap_i64] at q37
      rw [c6.1] at h3
      rw [q15] at h12 h13
      obtain ⟨T1, T2, T3, T4⟩ := torn_law h3 (by omega) (by omega) (by omega) h9 h13
      have hf : r_28 = false := by assumption
      rcases T4 (by omega) with c | ⟨c, c1, c2⟩
      ·
       rw [h18.2 c] at hf; cases hf
      ·
       have hr : r_33 = true := h20.2 c
       refine k_true hk ?_
       rw [hr]
       simp
       omega

theorem storeTorn_ok : Holds Try.prog 6 lawTornS := by
  refine fn_sound (env := mkEnv H8) (tab_ok H8_ok) Try.func6 Try.call6 fun args k h => ?_
  match args, h with
  | [.agg [.sl 0 d], .int .u8 m, .sl 10 l, .int .i64 w, .int .i64 t], h => exact ⟨by kernel_rfl, fun _ _ => none, fun _ _ => none, .cast (by kernel_rfl) (storeTorn_vc d m h.1.1 h.1.2 l w h.2.1.1 h.2.1.2 t h.2.2.1.1 h.2.2.1.2 k h.2.2.2)⟩
end Go.Proofs.Ytcdflgfhkohldaa
namespace Go.Proofs.Ytcdflgfhkohldaa
open Go.ChangeShapes Go.WideShapes Go.ChangeAt Go.RowKit Go.Eng
set_option linter.unusedVariables false

theorem ownT : ownKnob Try.prog.godebug = none := by kernel_rfl
theorem laidT : laidOutB Try.prog = true := by kernel_rfl

set_option maxHeartbeats 800000 in
set_option maxRecDepth 100000 in
theorem storeTornLifted (os : Os) (started : os.Started) (H : Type) (enc : TypeId × Value → H) :
    ReturnsInHanded {} Try.checked os 6 .any (Rows.storeTornSpec.pre6 enc Try.prog Try.f6 Rows.storeTornRow.domain false) (Rows.storeTornSpec.post enc Try.prog Try.f6 false true false false) := by
  refine returnsInHanded_of_change (C := Try.checked) ownT started (by kernel_rfl) Try.func6
    (ChangeSpec.witness6 (enc := enc) (C := Try.checked) false ⟨#[], #[.agg #[.slice none 0 0], .int .u8 0, .slice none 0 0, .int .i64 0, .int .i64 0], []⟩ 8 (by kernel_rfl) (by kernel_rfl) (by kernel_rfl) (by kernel_rfl)) ?_
  intro W base args ds gs before hval0 hW hcnd _
  have hval : ∀ (j : Nat) t v, Try.f6.params[j]? = some t → args[j]? = some v → Value.okWide Try.prog W .any base t v := hval0
  have hW' := hW
  obtain ⟨p, q, hA0, hV, rfl, hfz, hnd⟩ := hW
  have hA : DataW.TrodAll enc Try.prog W 0 (fun _ => true) true Try.f6.params.toList args.toList ds p := hA0
  rw [Try.params6] at hA hval
  obtain ⟨v0, vs0, d0, ds0, p0, q0, hargs, rfl, rfl, h0, r0⟩ := trodAll_cons hA
  obtain ⟨v1, vs1, d1, ds1, p1, q1, rfl, rfl, rfl, h1, r1⟩ := trodAll_cons r0
  obtain ⟨v2, vs2, d2, ds2, p2, q2, rfl, rfl, rfl, h2, r2⟩ := trodAll_cons r1
  obtain ⟨v3, vs3, d3, ds3, p3, q3, rfl, rfl, rfl, h3, r3⟩ := trodAll_cons r2
  obtain ⟨v4, vs4, d4, ds4, p4, q4, rfl, rfl, rfl, h4, r4⟩ := trodAll_cons r3
  obtain ⟨rfl, rfl, rfl⟩ := trodAll_nil r4
  obtain rfl : args = #[v0, v1, v2, v3, v4] := by cases args; simp_all
  obtain ⟨rfl, rfl⟩ := trodVars_none hV
  have k0 := h0
  have lt0 : ∀ x ∈ p0, x.block < W.heap.size := by obtain ⟨m, hm⟩ := k0; exact DataW.trod_lt m _ _ _ hm
  obtain ⟨fuel0, hf0⟩ := h0
  obtain ⟨cs0, rfl, hsz0, hcs0⟩ := open_scal Try.underlying35 (by kernel_rfl) (by kernel_rfl) (hval 0 35 v0 rfl rfl) hf0
  obtain ⟨c0_0, rfl⟩ : ∃ b0, cs0 = #[b0] := by
    exact arr1 hsz0
  obtain ⟨n0_0, y0_0, hy0_0⟩ := hcs0 0 _ _ rfl rfl
  obtain ⟨u0_0, xs0_0, e0_0, o0_0, w0_0, -⟩ := rep_slice (c := 0) (by decide) Try.underlying32 (by kernel_rfl) (cells_u8 Try.underlying5) hy0_0
  obtain rfl : c0_0 = u0_0 := by simpa using e0_0
  obtain ⟨a1, rfl, rfl, rfl, w1⟩ := open_int Try.underlying5 (hval 1 5 v1 rfl rfl) h1
  have k2 := h2
  have lt2 : ∀ x ∈ p2, x.block < W.heap.size := by obtain ⟨m, hm⟩ := k2; exact DataW.trod_lt m _ _ _ hm
  obtain ⟨xs2, w2, z2⟩ : ∃ xs : List (ty 10), Rep W (· < W.heap.size) noIds v2 (.sl 10 xs) ∧ DSz ZPlan d2 xs := by
    obtain ⟨fuel, hf⟩ := h2
    exact rep_in (c := 10) (by decide) Try.underlying22 (by kernel_rfl) (cells_plan Try.underlying71 (by kernel_rfl) rfl Try.underlying3 Try.underlying3 Try.underlying69 Try.underlying3 (by kernel_rfl) (by kernel_rfl) (by kernel_rfl) (by kernel_rfl)) (hval 2 22 v2 rfl rfl) hf
  obtain ⟨a3, rfl, rfl, rfl, w3⟩ := open_int Try.underlying3 (hval 3 3 v3 rfl rfl) h3
  obtain ⟨a4, rfl, rfl, rfl, w4⟩ := open_int Try.underlying3 (hval 4 3 v4 rfl rfl) h4
  clear hA0 hval0
  have hk1 : kwf .u8 a1 := by simpa [Lit.wf, kwf] using w1
  have hk3 : kwf .i64 a3 := by simpa [Lit.wf, kwf] using w3
  have hk4 : kwf .i64 a4 := by simpa [Lit.wf, kwf] using w4
  refine (calls_of_holds storeTorn_ok Try.call6 (w := W) (vals := #[.agg #[c0_0], .int .u8 a1, v2, .int .i64 a3, .int .i64 a4]) (args := [.agg [.sl 0 xs0_0], .int .u8 a1, .sl 10 xs2, .int .i64 a3, .int .i64 a4]) rfl (fun j v hj => ?_) ⟨hk1, hk3, hk4, rfl⟩).mono fun e W' ⟨he, bel⟩ => ?_
  · rcases j with _ | _ | _ | _ | _ | j
    · simp at hj; subst hj; refine .agg rfl (fun j v h => ?_) (fun j v h => ?_) <;> rcases j with _ | j <;> simp at h <;> subst h <;> first | rfl | exact .bool | exact .int (by assumption) | assumption
    · simp at hj; subst hj; exact .int hk1
    · simp at hj; subst hj; exact w2
    · simp at hj; subst hj; exact .int hk3
    · simp at hj; subst hj; exact .int hk4
    · simp at hj
  subst he
  exact ⟨_, rfl, _, _, _, [], _, [], hW', trodAll_mk1 (shut_bool Try.underlying4 _), (trodAll_cons_mk (Below.trod laidT (by kernel_rfl) (of_decide_eq_true (by kernel_rfl)) k0 bel lt0) (trodAll_cons_mk (shut_int Try.underlying5 w1) (trodAll_cons_mk (Below.trod laidT (by kernel_rfl) (of_decide_eq_true (by kernel_rfl)) k2 bel lt2) (trodAll_cons_mk (shut_int Try.underlying3 w3) (trodAll_cons_mk (shut_int Try.underlying3 w4) trodAll_mk0))))), rfl, bel.frame _, fun h => by cases h⟩

theorem storeTorn_said : Rows.StoreTornSaid :=
  OpenClaim.holds_of_wide 6 Try.f6 rfl rfl rfl rfl rfl rfl rfl ⟨rfl, rfl, rfl, rfl, rfl⟩ rfl rfl rfl rfl rfl (by kernel_rfl) Try.func6 (by kernel_rfl)
    (of_decide_eq_true (by kernel_rfl)) (by unfold Func.isWrapper; first | (rw [if_pos (by decide +kernel)]; kernel_rfl) | (rw [if_neg (by decide +kernel)]; exact ⟨rfl, rfl⟩))
    (fun os started H enc _ => storeTornLifted os started H enc)
#print axioms storeTorn_said
end Go.Proofs.Ytcdflgfhkohldaa


