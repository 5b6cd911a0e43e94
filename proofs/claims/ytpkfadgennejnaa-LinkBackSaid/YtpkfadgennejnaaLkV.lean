import Derived.Test.YtpkfadgennejnaaLkU
namespace Go.Proofs.Ytpkfadgennejnaa
open Go Go.Eng Go.Rw Go.Lk Go.Proofs
set_option linter.unusedVariables false
noncomputable def M5 : Tab := [(10, trueS), (21, commandD), (22, commandD), (23, reportD), (24, reportD), (25, ofcD), (26, ofcD), (27, ofrD), (28, ofrD), (29, sameCS), (30, sameRS)]
theorem M5_ok : TabOk Try.prog M5 := ⟨alive_ok, command_up command_ok, command_up rcommand_ok, report_up report_ok, report_up rreport_ok, ofc_up ofc_ok, ofc_up rofc_ok, ofr_up ofr_ok, ofr_up rofr_ok, samec_ok, samer_ok, trivial⟩
def lawBodies : Eng.Spec := { ro := true, own := [], run := fun args _ k => match args with
  | [.agg [.int .i64 s, .int .i64 c, .int .i64 o, .sl 1 l], .agg [.int .i64 s2, .int .u8 m, .int .i64 t, .sl 1 l2], .sl 0 b] => inK .i64 s ∧ inK .i64 c ∧ inK .i64 o ∧ inK .i64 s2 ∧ inK .u8 m ∧ inK .i64 t ∧ k (.bool true) [] []
  | _ => False }
theorem of_some {x : Four} (h : ofE x = 0) : x = some (of1 x, of2 x, of3 x, of4 x) := by
  cases x with
  | none => exact absurd h (by decide)
  | some t => rfl
theorem backC {b ys : List UInt8} {e s c o e2 : Int} {l : List Int} {n m : Nat} (he : e = ofE (ansC b)) (hz : e = 0) (h1 : s = of1 (ansC b)) (h2 : c = of2 (ansC b)) (h3 : o = of3 (ansC b)) (h4 : l = of4 (ansC b)) (hn : l.length = n) (h5 : e2 = cE s c o (List.take n (List.drop 0 l))) (h6 : ys = cO s c o (List.take n (List.drop 0 l))) (hm : ys.length = m) (hc : ¬ e2 = 0 ∨ ¬ List.take m ys = b) : False := by
  have S := of_some (he.symm.trans hz)
  rw [← h1, ← h2, ← h3, ← h4] at S
  obtain ⟨a1, a2⟩ := ansC_of S
  rw [List.drop_zero, ← hn, List.take_length] at h5 h6
  rcases hc with c | c
  · exact c (h5.trans a1)
  · exact c (by rw [← hm, List.take_length, h6]; exact a2)
theorem backR {b ys : List UInt8} {e s c o e2 : Int} {l : List Int} {n m : Nat} (he : e = ofE (ansR b)) (hz : e = 0) (h1 : s = of1 (ansR b)) (h2 : c = of2 (ansR b)) (h3 : o = of3 (ansR b)) (h4 : l = of4 (ansR b)) (hn : l.length = n) (h5 : e2 = rE s c o (List.take n (List.drop 0 l))) (h6 : ys = rO s c o (List.take n (List.drop 0 l))) (hm : ys.length = m) (hc : ¬ e2 = 0 ∨ ¬ List.take m ys = b) : False := by
  have S := of_some (he.symm.trans hz)
  rw [← h1, ← h2, ← h3, ← h4] at S
  obtain ⟨a1, a2⟩ := ansR_of S
  rw [List.drop_zero, ← hn, List.take_length] at h5 h6
  rcases hc with c | c
  · exact c (h5.trans a1)
  · exact c (by rw [← hm, List.take_length, h6]; exact a2)
theorem fwdC {s c o e : Int} {l : List Int} {ys : List UInt8} {n : Nat} (he : e = cE s c o l) (hz : e = 0) (hy : ys = cO s c o l) (hn : ys.length = n) : n ≤ 512 ∧ ansC (List.take n (List.drop 0 ys)) = some (s, c, o, l) := by
  obtain ⟨a1, a2⟩ := ansC_back (he.symm.trans hz)
  rw [← hy] at a1 a2
  rw [List.drop_zero, ← hn, List.take_length]
  exact ⟨a2, a1⟩
theorem fwdR {s c o e : Int} {l : List Int} {ys : List UInt8} {n : Nat} (hc : 0 ≤ c) (he : e = rE s c o l) (hz : e = 0) (hy : ys = rO s c o l) (hn : ys.length = n) : n ≤ 512 ∧ ansR (List.take n (List.drop 0 ys)) = some (s, c, o, l) := by
  obtain ⟨a1, a2⟩ := ansR_back hc (he.symm.trans hz)
  rw [← hy] at a1 a2
  rw [List.drop_zero, ← hn, List.take_length]
  exact ⟨a2, a1⟩
theorem fwd_e {x : Four} {t : Int × Int × Int × List Int} {e : Int} (h : x = some t) (he : e = ofE x) (hc : ¬ e = 0) : False := hc (by rw [he, h]; rfl)
theorem fwd_r {x : Four} {s c o s1 c1 o1 : Int} {l l1 : List Int} {n m : Nat} {q : Int} {r : Bool} (hx : m ≤ 512 ∧ x = some (s, c, o, l)) (h1 : s1 = of1 x) (h2 : c1 = of2 x) (h3 : o1 = of3 x) (h4 : l1 = of4 x) (hn : l1.length = n) (hr : r = true ↔ s1 = s ∧ c1 = c ∧ o1 = o ∧ List.take n (List.drop 0 l1) = l) (hq : q = m) (hc : r = false ∨ 512 < q) : False := by
  rw [hx.2] at h1 h2 h3 h4
  rcases hc with c | c
  · rw [hr.2 ⟨h1, h2, h3, by rw [List.drop_zero, ← hn, List.take_length]; exact h4⟩] at c; cases c
  · omega
end Go.Proofs.Ytpkfadgennejnaa

