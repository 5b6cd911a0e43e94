/- LinkTakes, in the form for arguments of bounded bulk (..UptoSaid): messages are taken and a link grows old as the document says; what came in stays as it was when what was answered is written over: it is new memory. Any link, messages and numbers within the row's bound. -/
import Derived.Test.YtpkfadgennejnaaLyF
import Derived.Test.YtpkfadgennejnaaEngR
import Derived.Test.YtpkfadgennejnaaEngY
import Derived.Test.YtpkfadgennejnaaRows
namespace Go.Proofs.Ytpkfadgennejnaa
open Go Go.Eng Go.Lk Go.Proofs
set_option linter.unusedVariables false
end Go.Proofs.Ytpkfadgennejnaa
namespace Go.Proofs.Ytpkfadgennejnaa
open Go.ChangeShapes Go.WideShapes Go.ChangeAt Go.RowKit Go.Eng
set_option linter.unusedVariables false

theorem ownT : ownKnob Try.prog.godebug = none := by kernel_rfl
theorem laidT : laidOutB Try.prog = true := by kernel_rfl

theorem oneLeT {H : Type} (d : DataW H) : 1 ≤ Rows.uptoBulk d := by
  cases d with
  | lit l => cases l <;> simp [Rows.uptoBulk]
  | _ => simp [Rows.uptoBulk]
theorem sumLeT {H : Type} {α : Type} {Z : DataW H → α → Prop} (f : α → Nat) (hf : ∀ d x, Z d x → f x ≤ Rows.uptoBulk d) : ∀ (el : List (DataW H)) (xs : List α), ZAll Z el xs → (xs.map f).sum ≤ Rows.uptoBulkAll el
  | [], [], _ => by simp [Rows.uptoBulkAll]
  | d :: el, x :: xs, h => by
    have h1 := hf d x h.1
    have h2 := sumLeT f hf el xs h.2
    simp only [List.map_cons, List.sum_cons, Rows.uptoBulkAll]; omega
  | [], _ :: _, h => h.elim
  | _ :: _, [], h => h.elim
theorem sumBulkT {H : Type} {α : Type} {Z : DataW H → α → Prop} (f : α → Nat) (hf : ∀ d x, Z d x → f x ≤ Rows.uptoBulk d) {d : DataW H} {xs : List α} (h : DSz Z d xs) : (xs.map f).sum ≤ Rows.uptoBulk d := by
  rcases h with rfl | ⟨el, sp, rfl, h⟩
  · simp
  · have := sumLeT f hf el xs h
    simp only [Rows.uptoBulk]; omega
theorem onesLenT {α : Type} (xs : List α) : (xs.map fun _ => 1).sum = xs.length := by
  induction xs with
  | nil => rfl
  | cons x r ih => simp only [List.map_cons, List.sum_cons, List.length_cons, ih]; omega
theorem bulkLenT {H : Type} {α : Type} {Z : DataW H → α → Prop} {d : DataW H} {xs : List α} (h : DSz Z d xs) : xs.length ≤ Rows.uptoBulk d := by
  have := sumBulkT (fun _ : α => 1) (fun d _ _ => oneLeT d) h
  rwa [onesLenT] at this
theorem bulkTotT {H : Type} {d : DataW H} {xs : List (List UInt8)} (h : DSz (DSz Z0) d xs) : xs.flatten.length ≤ Rows.uptoBulk d := by
  have := sumBulkT List.length (fun d x h => bulkLenT h) h
  rwa [← List.length_flatten] at this
theorem bulkMsgT {H : Type} {d : DataW H} {xs : List Msg} (h : DSz ZMsg d xs) : (xs.map fun m => m.body.length).sum ≤ Rows.uptoBulk d :=
  sumBulkT (fun m : Msg => m.body.length) (fun d x h => by
    obtain ⟨d0, d1, d2, rfl, h⟩ := h
    have := bulkLenT h
    simp only [Rows.uptoBulk, Rows.uptoBulkAll]; omega) h

set_option maxHeartbeats 800000 in
set_option maxRecDepth 100000 in
theorem linkTakesContract (H : Type) (enc : TypeId × Value → H) (W : World) (base : Nat) (args : Array Value) (ds gs : List (DataW H)) (before : List MemPlace)
    (hval0 : ∀ (j : Nat) t v, Try.f6.params[j]? = some t → args[j]? = some v → Value.okWide Try.prog W .any base t v)
    (hW : DataW.Whole enc Try.prog Try.f6.params.toList Rows.linkTakesSpec.vars false W args.toList ds gs before) (hk : Rows.uptoSmall H (ds ++ gs) = true) :
    Calls Try.prog 6 args W fun e W' => ∃ v, e = .returned v ∧ Rows.linkTakesSpec.post enc Try.prog Try.f6 false true false false W args v W' := by
  have hval : ∀ (j : Nat) t v, Try.f6.params[j]? = some t → args[j]? = some v → Value.okWide Try.prog W .any base t v := hval0
  have hW' := hW
  obtain ⟨p, q, hA0, hV, rfl, hfz, hnd⟩ := hW
  have hA : DataW.TrodAll enc Try.prog W 0 (fun _ => true) true Try.f6.params.toList args.toList ds p := hA0
  rw [Try.params6] at hA hval
  obtain ⟨v0, vs0, d0, ds0, p0, q0, hargs, rfl, rfl, h0, r0⟩ := trodAll_cons hA
  obtain ⟨v1, vs1, d1, ds1, p1, q1, rfl, rfl, rfl, h1, r1⟩ := trodAll_cons r0
  obtain ⟨v2, vs2, d2, ds2, p2, q2, rfl, rfl, rfl, h2, r2⟩ := trodAll_cons r1
  obtain ⟨v3, vs3, d3, ds3, p3, q3, rfl, rfl, rfl, h3, r3⟩ := trodAll_cons r2
  obtain ⟨rfl, rfl, rfl⟩ := trodAll_nil r3
  obtain rfl : args = #[v0, v1, v2, v3] := by cases args; simp_all
  obtain ⟨rfl, rfl⟩ := trodVars_none hV
  have k0 := h0
  have lt0 : ∀ x ∈ p0, x.block < W.heap.size := by obtain ⟨m, hm⟩ := k0; exact DataW.trod_lt m _ _ _ hm
  obtain ⟨fuel0, hf0⟩ := h0
  obtain ⟨cs0, rfl, hsz0, hcs0⟩ := open_scal Try.underlying24 (by kernel_rfl) (by kernel_rfl) (hval 0 24 v0 rfl rfl) hf0
  obtain ⟨c0_0, c0_1, c0_2, rfl⟩ : ∃ b0 b1 b2, cs0 = #[b0, b1, b2] := by
    exact arr3 hsz0
  obtain ⟨n0_0, y0_0, hy0_0⟩ := hcs0 0 _ _ rfl rfl
  obtain ⟨a0_0, e0_0, -⟩ := DataW.trod_bool Try.underlying4 hy0_0
  obtain rfl : c0_0 = .bool a0_0 := by simpa using e0_0
  obtain ⟨n0_1, y0_1, hy0_1⟩ := hcs0 1 _ _ rfl rfl
  obtain ⟨a0_1, e0_1, -, w0_1⟩ := DataW.trod_int Try.underlying22 hy0_1
  obtain rfl : c0_1 = .int .u32 a0_1 := by simpa using e0_1
  obtain ⟨n0_2, y0_2, hy0_2⟩ := hcs0 2 _ _ rfl rfl
  obtain ⟨a0_2, e0_2, -, w0_2⟩ := DataW.trod_int Try.underlying3 hy0_2
  obtain rfl : c0_2 = .int .i64 a0_2 := by simpa using e0_2
  have k1 := h1
  have lt1 : ∀ x ∈ p1, x.block < W.heap.size := by obtain ⟨m, hm⟩ := k1; exact DataW.trod_lt m _ _ _ hm
  obtain ⟨xs1, w1, z1⟩ : ∃ xs : List (ty 8), Rep W (· < W.heap.size) noIds v1 (.sl 8 xs) ∧ DSz ZMsg d1 xs := by
    obtain ⟨fuel, hf⟩ := h1
    exact rep_in (c := 8) (by decide) Try.underlying27 (by kernel_rfl) (cells_msg Try.underlying34 (by kernel_rfl) rfl Try.underlying5 Try.underlying22 Try.underlying32 Try.underlying5 (by kernel_rfl) (by kernel_rfl) (by kernel_rfl) (by kernel_rfl)) (hval 1 27 v1 rfl rfl) hf
  obtain ⟨a2, rfl, rfl, rfl, w2⟩ := open_int Try.underlying3 (hval 2 3 v2 rfl rfl) h2
  obtain ⟨a3, rfl, rfl, rfl, w3⟩ := open_int Try.underlying22 (hval 3 22 v3 rfl rfl) h3
  clear hA0 hval0
  have hb := of_decide_eq_true hk
  simp only [List.append_nil, Rows.uptoBulkAll] at hb
  have hk0_1 : kwf .u32 a0_1 := by simpa [Lit.wf, kwf] using w0_1
  have hk0_2 : kwf .i64 a0_2 := by simpa [Lit.wf, kwf] using w0_2
  have hz1 : xs1.length ≤ 1048576 := by have := bulkLenT z1; omega
  have ht1 : (xs1.map fun m : Msg => m.body.length).sum ≤ 1048576 := by have := bulkMsgT z1; omega
  have hk2 : kwf .i64 a2 := by simpa [Lit.wf, kwf] using w2
  have hk3 : kwf .u32 a3 := by simpa [Lit.wf, kwf] using w3
  refine (calls_of_holds takes_ok Try.call6 (w := W) (vals := #[.agg #[.bool a0_0, .int .u32 a0_1, .int .i64 a0_2], v1, .int .i64 a2, .int .u32 a3]) (args := [.agg [.bool a0_0, .int .u32 a0_1, .int .i64 a0_2], .sl 8 xs1, .int .i64 a2, .int .u32 a3]) rfl (fun j v hj => ?_) ⟨hk0_1, hk0_2, hk2, hk3, hz1, ht1, rfl⟩).mono fun e W' ⟨he, bel⟩ => ?_
  · rcases j with _ | _ | _ | _ | j
    · simp at hj; subst hj; refine .agg rfl (fun j v h => ?_) (fun j v h => ?_) <;> rcases j with _ | _ | _ | j <;> simp at h <;> subst h <;> first | rfl | exact .bool | exact .int (by assumption) | assumption
    · simp at hj; subst hj; exact w1
    · simp at hj; subst hj; exact .int hk2
    · simp at hj; subst hj; exact .int hk3
    · simp at hj
  subst he
  exact ⟨_, rfl, _, _, _, [], _, [], hW', trodAll_mk1 (shut_bool Try.underlying4 _), (trodAll_cons_mk (Below.trod laidT (by kernel_rfl) (of_decide_eq_true (by kernel_rfl)) k0 bel lt0) (trodAll_cons_mk (Below.trod laidT (by kernel_rfl) (of_decide_eq_true (by kernel_rfl)) k1 bel lt1) (trodAll_cons_mk (shut_int Try.underlying3 w2) (trodAll_cons_mk (shut_int Try.underlying22 w3) trodAll_mk0)))), rfl, bel.frame _, fun h => by cases h⟩

set_option maxRecDepth 100000 in
theorem linkTakesLifted (os : Os) (started : os.Started) (H : Type) (enc : TypeId × Value → H) (F : Stop.Interp) :
    ReturnsInHanded {} Try.checked os 6 .any ((Rows.OpenSpec.upto Rows.linkTakesSpec).pre6 enc Try.prog Try.f6 Rows.linkTakesUptoRow.domain false) (((Rows.OpenSpec.upto Rows.linkTakesSpec).at F).post enc Try.prog Try.f6 false true false false) := by
  refine returnsInHanded_of_cond (C := Try.checked) (s := Rows.OpenSpec.upto Rows.linkTakesSpec) (k := Rows.uptoSmall) rfl ownT started (by kernel_rfl) Try.func6
    (OpenSpec.witness (enc := enc) (C := Try.checked) (s := Rows.OpenSpec.upto Rows.linkTakesSpec) (k := Rows.uptoSmall) rfl false ⟨#[], #[.agg #[.bool false, .int .u32 0, .int .i64 0], .slice none 0 0, .int .i64 0, .int .u32 0], []⟩ 8 (by kernel_rfl) (by kernel_rfl) (by kernel_rfl)
      (x := ([.agg [.lit (.bool false), .lit (.int .u32 0), .lit (.int .i64 0)], .nil, .lit (.int .i64 0), .lit (.int .u32 0)], [], [])) (by kernel_rfl) rfl (by kernel_rfl)) ?_
  intro W base args ds gs before hval hW _ hk _
  exact linkTakesContract H enc W base args ds gs before hval hW hk

theorem linkTakes_said : Rows.LinkTakesUptoSaid :=
  OpenClaim.holds_of_cond 6 Try.f6 rfl rfl rfl rfl rfl rfl rfl ⟨rfl, rfl, rfl, rfl, rfl⟩ rfl rfl rfl rfl rfl (by kernel_rfl) Try.func6 (by kernel_rfl)
    (of_decide_eq_true (by kernel_rfl)) (by unfold Func.isWrapper; first | (rw [if_pos (by decide +kernel)]; kernel_rfl) | (rw [if_neg (by decide +kernel)]; exact ⟨rfl, rfl⟩))
    (fun os started H enc _ F => linkTakesLifted os started H enc F)
#print axioms linkTakes_said
end Go.Proofs.Ytpkfadgennejnaa


