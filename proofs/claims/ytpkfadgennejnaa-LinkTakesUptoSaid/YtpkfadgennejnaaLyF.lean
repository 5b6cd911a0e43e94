import Derived.Test.YtpkfadgennejnaaLyE
namespace Go.Proofs.Ytpkfadgennejnaa
open Go Go.Eng Go.Lk Go.Proofs
set_option linter.unusedVariables false
theorem tk_parts : seqs tkBody = tkL1 ++ (tkL2 ++ tkL3) := by
  unfold tkL1 tkL2 tkL3
  rw [List.take_append_drop, List.take_append_drop]
theorem takes_ok : Holds Try.prog 6 lawTakes := by
  refine fn_wild (env := mkEnv V1) (env2 := fun yb => mkEnvW yb (V2 yb)) (fun _ => rfl) rfl (fun _ => rfl) (tab_ok V1_ok) (fun yb => tabN_ok (V2_ok yb)) Try.func6 Try.call6
    (l1 := tkL1) (l2 := tkL2) (l3 := tkL3) (c := tkBody) (by kernel_rfl) tk_parts rfl fun args k h => ?_
  match args, h with
  | [.agg [.bool an, .int .u32 la, .int .i64 ag], .sl 8 got, .int .i64 watch, .int .u32 last], h =>
    obtain ⟨⟨la0, la1⟩, ⟨ag0, ag1⟩, ⟨w0, w1⟩, ⟨t0, t1⟩, g1, g2, hk⟩ := h
    have hs := small_sum g1 g2
    refine ⟨by kernel_rfl, Int, Value × Value, fun _ => tkA an la ag got watch last, fun _ => True, fun _ x => tkB an la ag got watch last x, fun _ x => tkC x, fun _ _ => tkD got, fun _ x => [(x.1, .sl 8 got), (x.2, .sl 8 got)],
      fun _ _ => none, fun _ x yb => takesLoops x yb, fun _ _ _ _ => none, ?_, ?_, ?_, ?_, ?_⟩
    · intro v w0 im0 im ρ a w h
      have p1 := h.pinSlot rfl 1 (x := .sl 8 got) rfl rfl
      have p2 := p1.pinSlot rfl 9 (x := .sl 8 got) rfl rfl
      refine ⟨(a.tmps.getD 1 undef, a.tmps.getD 9 undef), p2, fun p hp => ?_⟩
      simp only [List.mem_cons, List.not_mem_nil, or_false] at hp
      rcases hp with rfl | rfl
      · exact h.factSlot rfl 1 (x := .sl 8 got) rfl rfl (by simp [tkA, mk, mkG])
      · exact h.factSlot rfl 9 (x := .sl 8 got) rfl rfl (by simp [tkA, mk, mkG])
    · intro v x w0 im0 im ρ a w h hF
      have b1 := h.backSlot rfl 1 (u := x.1) (x := .sl 8 got) rfl (hF (x.1, .sl 8 got) (by simp))
      exact b1.backSlot rfl 9 (u := x.2) (x := .sl 8 got) rfl (hF (x.2, .sl 8 got) (by simp))
    · exact .cast (by kernel_rfl) (takes1_vc an la la0 la1 ag ag0 ag1 got watch w0 w1 last t0 t1 hs k hk)
    · intro v x yb _
      exact .cast (by kernel_rfl) (takes2_vc an la la0 la1 ag ag0 ag1 got watch w0 w1 last t0 t1 x yb hs k hk)
    · intro v x _
      exact .cast (by kernel_rfl) (takes3_vc got hs k hk)
end Go.Proofs.Ytpkfadgennejnaa

