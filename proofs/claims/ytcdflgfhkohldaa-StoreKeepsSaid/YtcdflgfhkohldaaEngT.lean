import Derived.Test.YtcdflgfhkohldaaEngP
import Derived.Defers
namespace Go.Eng
open Go
set_option linter.unusedVariables false
set_option linter.unusedSimpArgs false
def vcOpsN (env : Env) (all : List Oper) : List Oper → Nat → AS → (AS → Prop) → Prop
  | [], _, σ, k => k σ
  | o :: rest, id, σ, k => vcOne env all o id σ fun σ' => vcOpsN env all rest (id + 1) σ' k
def splitLast : List Oper → Option (List Oper × Oper)
  | [] => none
  | [o] => some ([], o)
  | o :: r => match splitLast r with
    | some (p, x) => some (o :: p, x)
    | none => none
def deferOf : Code → Option (Nat × Array Oper × List Oper × Oper × Call)
  | .region id ops false => match splitLast ops.toList with
    | some (p, o) => match o.op, o.guard with
      | .defer c, none => some (id, ops, p, o, c)
      | _, _ => none
    | none => none
  | _ => none
def pinS : Nat → List Nat → AS → AS
  | _, [], σ => σ
  | n, i :: r, σ => pinS (n + 1) r (σ.swap i n)
def pinV : Nat → List Nat → List AV → List AV
  | _, [], l => l
  | n, i :: r, l => pinV (n + 1) r (renL (swp i n) l)
def keepP (L : Locs) : AV → AV
  | .ptr i o => match lget L i, Nat.blt i 900 with
    | some _, true => .ptr i o
    | _, _ => .dead
  | .int k n => .int k n
  | .bool b => .bool b
  | .str s => .str s
  | .nilptr => .nilptr
  | .nilsl => .nilsl
  | .nilfn => .nilfn
  | _ => .dead
def keepAll (L : Locs) : List AV → List AV
  | [] => []
  | x :: r => keepP L x :: keepAll L r
def allHigh : Locs → Bool
  | [] => true
  | (i, _) :: r => Nat.ble 900 i && allHigh r
def runD (env : Env) (ro : Bool) (fn : Func) (k : AV → List (Option Blk) → List Blk → Prop) (n : FuncId) (vs : List AV) (l : List Nat) (σ : AS) : Prop :=
  match env.P.funcs[n]?, noGs σ.gs with
  | some fn', true => match fn'.body, Nat.ble vs.length fn'.ntmps with
    | some c, true => vc env c ⟨pad (keepAll σ.locs vs) fn'.ntmps, [], σ.locs⟩ fun e σ4 => match e with
      | .exit _ => False
      | _ => match resAV env.P σ4 fn'.results.toList, noGs σ4.gs with
        | some _, true => match pinS 0 l ⟨keepAll σ4.locs σ.slots, [], σ4.locs⟩ with
          | σ5 => ifP (allHigh σ5.locs) (finish env.P ro σ5 fn.results.toList k)
        | _, _ => False
    | _, _ => False
  | _, _ => False
def vcTop (env : Env) (ro : Bool) (n : FuncId) (fn : Func) (k : AV → List (Option Blk) → List Blk → Prop) : Code → AS → Prop
  | .seq a b, σ => match deferOf a with
    | none => vc env a σ fun e σ' => match e with
      | .norm => vcTop env ro n fn k b σ'
      | .ret => finish env.P ro σ' fn.results.toList k
      | .exit _ => False
    | some (id, ops, pre, o, c) => vcOpsN env ops.toList pre ((id + 1) * 1000) σ fun σ1 => match c.callee, noGs σ1.gs with
      | .value f, true => match σ1.ev none f with
        | .fn (.func n') first cap => match Nat.beq n' n with
          | true => match first ++ c.args.toList.map (σ1.ev none) ++ cap with
            | vs => match idsL vs [] with
              | l => vc env b ((pinS 0 l σ1).put o.dst none (.tup [])) fun e σ3 => match e with
                | .exit _ => False
                | _ => runD env ro fn k n (pinV 0 l vs) l σ3
          | false => False
        | _ => False
      | _, _ => False
  | c, σ => vc env c σ fun e σ' => match e with
    | .exit _ => False
    | _ => finish env.P ro σ' fn.results.toList k
def fnVCD (env : Env) (ro : Bool) (n : FuncId) (fn : Func) (args : List AV) (k : AV → List (Option Blk) → List Blk → Prop) : Prop :=
  match fn.body with
  | none => False
  | some c => vcTop env ro n fn k c ⟨pad args fn.ntmps, [], []⟩
theorem splitLast_eq : ∀ {l p : List Oper} {o : Oper}, splitLast l = some (p, o) → l = p ++ [o]
  | [], _, _, h => by cases h
  | [x], p, o, h => by
    simp only [splitLast, Option.some.injEq, Prod.mk.injEq] at h
    obtain ⟨rfl, rfl⟩ := h
    rfl
  | x :: y :: r, p, o, h => by
    unfold splitLast at h
    split at h
    · rename_i q z hq
      simp only [Option.some.injEq, Prod.mk.injEq] at h
      obtain ⟨rfl, rfl⟩ := h
      rw [splitLast_eq hq]; rfl
    · cases h
section
variable {w0 w : World} {bor : Bor} {im0 im : Nat → Prop} {ρ : Ids} {σ : AS} {a : Act}
theorem vcOpsN_sound {env : Env} (hΓ : Gam env.P env.spec env.yw w0 bor im0) {ops : Array Oper} {Q : Exit → Act → World → Prop} {k : AS → Prop} {tail : List Oper} : ∀ (rest : List Oper) (id : Nat) {σ : AS} {a : Act} {w : World} {im : Nat → Prop} {ρ : Ids},
    SA w0 bor im0 im ρ σ a w → vcOpsN env ops.toList rest id σ k → (∀ σ' a' w' im' ρ', k σ' → SA w0 bor im0 im' ρ' σ' a' w' → wpList env.P ops Q tail a' w') → wpList env.P ops Q (rest ++ tail) a w
  | [], id, σ, a, w, im, ρ, h, hv, hn => hn _ _ _ _ _ hv h
  | o :: rest, id, σ, a, w, im, ρ, h, hv, hn => by
    unfold vcOpsN at hv
    rw [List.cons_append]
    unfold wpList
    have := vcOne_sound (ops := ops) (Q := Q) (next := wpList env.P ops Q (rest ++ tail)) hΓ h hv fun σ' a' w' im' ρ' hk h' _ => vcOpsN_sound hΓ rest _ h' hk hn
    split
    · rename_i hw
      rw [if_pos hw] at this
      exact .inl this
    · rename_i hw
      rw [if_neg hw] at this
      exact this
theorem SA.swapB (h : SA w0 bor im0 im ρ σ a w) (i j : Nat) : SA w0 ⟨bor.mem, fun k => ρ (swp i j k), bor.dfs⟩ im0 im (fun k => ρ (swp i j k)) (σ.swap i j) a w := by
  have hρ : ∀ k x, ρ k = some x → (fun k => ρ (swp i j k)) (swp i j k) = some x := fun k x hk => by dsimp only; rw [swp_swp]; exact hk
  refine ⟨⟨h.st.defers, by rw [h.st.len]; show _ = (renL _ _).length; rw [renL_eq, List.length_map], fun k v hv => ?_, fun k hk => ?_, fun k b hk => ?_, fun k l b m m' hk hl => swp_inj (h.st.inj _ _ b m m' hk hl), fun k b m hk => h.st.notim _ b m hk, h.st.imlt, h.st.imold, h.st.imnew, fun k b m hk => h.st.own _ b m hk, fun k x hlt hk => hk, h.st.shp, h.st.blt, h.st.os, h.st.tape, h.st.output, h.st.size, h.st.frame⟩, ?_⟩
  · have := h.st.slot k v hv
    unfold SRep at this ⊢
    show match gget σ.gs k with | none => Rep w im _ v (nth (renL (swp i j) σ.slots) k) | some (tc, wt) => _
    rw [renL_eq, nth_map_dead (by rfl)]
    split
    · rename_i hg; rw [hg] at this; exact this.ren _ hρ
    · rename_i tc wt hg
      rw [hg] at this
      refine ⟨fun e => ?_, this.2⟩
      show Rep w im _ v (nth (renL (swp i j) σ.slots) k)
      rw [renL_eq, nth_map_dead (by rfl)]
      exact (this.1 e).ren (swp i j) hρ
  · have hk' : lget (swpLocs (swp i j) σ.locs) k = none := hk
    rw [lget_swp] at hk'
    exact h.st.dom _ (Option.map_eq_none_iff.1 hk')
  · have hk' : lget (swpLocs (swp i j) σ.locs) k = some b := hk
    rw [lget_swp] at hk'
    obtain ⟨b0, h1, h2⟩ := Option.map_eq_some_iff.1 hk'
    obtain ⟨ob, h3, h4⟩ := h.st.blk _ _ h1
    refine ⟨ob, h3, ?_⟩
    subst h2
    have := h4.ren (ρ2 := fun k => ρ (swp i j k)) (swp i j) hρ
    cases b0 <;> exact this
  · show Uniq (swpLocs (swp i j) σ.locs)
    have hu := h.uniq
    unfold Uniq at hu ⊢
    rw [keys_swp]
    exact List.Pairwise.map _ (fun x y hxy e => hxy (swp_inj e)) hu
theorem SA.pinned (h : SA w0 bor im0 im ρ σ a w) : SA w0 ⟨bor.mem, ρ, bor.dfs⟩ im0 im ρ σ a w :=
  ⟨⟨h.st.defers, h.st.len, h.st.slot, h.st.dom, h.st.blk, h.st.inj, h.st.notim, h.st.imlt, h.st.imold, h.st.imnew, h.st.own, fun _ _ _ hk => hk, h.st.shp, h.st.blt, h.st.os, h.st.tape, h.st.output, h.st.size, h.st.frame⟩, h.uniq⟩
theorem pinS_ok : ∀ (l : List Nat) (n : Nat) {bor : Bor} {ρ : Ids} {σ : AS}, SA w0 bor im0 im ρ σ a w → ∃ ρ', SA w0 ⟨bor.mem, ρ', bor.dfs⟩ im0 im ρ' (pinS n l σ) a w ∧
    ∀ (vs : Array Value) (xs : List AV), (∀ (j : Nat) (v : Value), vs[j]? = some v → Rep w im ρ v (nth xs j)) → ∀ (j : Nat) (v : Value), vs[j]? = some v → Rep w im ρ' v (nth (pinV n l xs) j)
  | [], n, bor, ρ, σ, h => ⟨ρ, h.pinned, fun _ _ hr => hr⟩
  | i :: r, n, bor, ρ, σ, h => by
    obtain ⟨ρ', h1, h2⟩ := pinS_ok r (n + 1) (h.swapB i n)
    refine ⟨ρ', h1, fun vs xs hr => h2 vs _ fun j v hj => ?_⟩
    rw [renL_eq, nth_map_dead (by rfl)]
    exact (hr j v hj).ren _ fun k x hk => by rw [swp_swp]; exact hk
theorem keepP_rep {w' : World} {im' : Nat → Prop} {ρ' : Ids} {pin : Ids} {L : Locs} {v : Value} {x : AV} (h : Rep w im ρ v x) (h1 : ∀ i x, i < 900 → ρ i = some x → pin i = some x) (h2 : ∀ i x, i < 900 → ρ' i = some x → pin i = some x)
    (hL : ∀ i b, lget L i = some b → ∃ x, ρ' i = some x) : Rep w' im' ρ' v (keepP L x) := by
  cases x with
  | ptr i o =>
    unfold keepP
    dsimp only
    split
    · rename_i b hl hlt
      have hlt : i < 900 := by simpa [Nat.blt, Nat.succ_le_iff] using hlt
      obtain ⟨y, hy⟩ := hL i _ hl
      obtain ⟨b, m, hb, rfl⟩ := h.inv_ptr
      have e1 := h1 i _ hlt hb
      have e2 := h2 i _ hlt hy
      rw [e1] at e2
      simp only [Option.some.injEq] at e2
      subst e2
      exact .ptr hy
    · exact .dead
  | int k n => rw [h.inv_int.1]; exact .int h.inv_int.2
  | bool b => rw [h.inv_bool]; exact .bool
  | str s => rw [h.inv_str.1]; exact .str h.inv_str.2
  | nilptr => rw [h.inv_nilptr]; exact .nilptr
  | nilsl => rw [h.inv_nilsl]; exact .nilsl
  | nilfn => cases h; exact .nilfn
  | sl c xs => exact .dead
  | iref c x o => exact .dead
  | row c i o n => exact .dead
  | eptr c i x o => exact .dead
  | agg l => exact .dead
  | tup l => exact .dead
  | fn f a b => exact .dead
  | dead => exact .dead
  | val => exact .dead
  | both => exact .dead
  | wsl => exact .dead
  | wref => exact .dead
  | anyb => exact .dead
  | cond b w v => exact .dead
theorem keepAll_eq (L : Locs) : ∀ (l : List AV), keepAll L l = l.map (keepP L)
  | [] => rfl
  | x :: r => by rw [keepAll, keepAll_eq L r]; rfl
theorem allHigh_ok : ∀ {L : Locs}, allHigh L = true → ∀ i b, lget L i = some b → 900 ≤ i
  | [], _, i, b, h => by cases h
  | (j, x) :: r, hL, i, b, h => by
    simp only [allHigh, Bool.and_eq_true] at hL
    unfold lget at h
    split at h
    · rename_i e
      have := nbeq e
      subst this
      exact Nat.le_of_ble_eq_true hL.1
    · exact allHigh_ok hL.2 i b h
theorem deferOf_eq {c : Code} {id : Nat} {ops : Array Oper} {p : List Oper} {o : Oper} {cl : Call} (h : deferOf c = some (id, ops, p, o, cl)) : c = .region id ops false ∧ ops.toList = p ++ [o] ∧ o.op = .defer cl ∧ o.guard = none := by
  unfold deferOf at h
  split at h
  · rename_i id' ops'
    split at h
    · rename_i p' o' hs
      split at h
      · rename_i c' ho hg
        simp only [Option.some.injEq, Prod.mk.injEq] at h
        obtain ⟨rfl, rfl, rfl, rfl, rfl⟩ := h
        exact ⟨rfl, splitLast_eq hs, ho, hg⟩
      · cases h
    · cases h
  · cases h
theorem slot_pad {args : List AV} {vals : Array Value} {n : Nat} {w : World} {im : Nat → Prop} {ρ : Ids} (hlen : vals.size = args.length) (hle : args.length ≤ n) (hrep : ∀ (j : Nat) (v : Value), vals[j]? = some v → Rep w im ρ v (nth args j)) (i : Nat) (v : Value)
    (hi : (vals ++ Array.replicate (n - vals.size) undef)[i]? = some v) : Rep w im ρ v (nth (pad args n) i) := by
  rw [Array.getElem?_append] at hi
  unfold pad
  rw [nth_eq]
  split at hi
  · rename_i h1
    rw [List.getElem?_append_left (by omega), ← nth_eq]
    exact hrep i v hi
  · rename_i h1
    rw [List.getElem?_append_right (by omega)]
    rw [Array.getElem?_replicate] at hi
    split at hi
    · rename_i h2
      simp only [Option.some.injEq] at hi; subst hi
      rw [List.getElem?_replicate, if_pos (by omega)]
      exact undef_rep
    · cases hi
theorem runD_sound {env : Env} (hΓ : Gam env.P env.spec env.yw w0 noBor im0) {ro : Bool} {fn : Func} {k : AV → List (Option Blk) → List Blk → Prop} {n : FuncId} {vs : List AV} {l : List Nat} {pin : Ids} {vals us : Array Value} {R : Ending → World → Prop}
    (hc : ∀ args w, (callFunc n args).run env.P w = .ok (.enter n args) w) {dargs : Array Value} (hda : dargs ++ us = vals)
    (h : SA w0 ⟨fun _ => False, pin, [{ target := .fn (.func n) us, args := dargs }]⟩ im0 im ρ σ a w) (hlen : vals.size = vs.length)
    {w1 : World} {im1 : Nat → Prop} {ρ1 : Ids} (hpin1 : ∀ i x, i < 900 → ρ1 i = some x → pin i = some x) (hvs : ∀ (j : Nat) (v : Value), vals[j]? = some v → Rep w1 im1 ρ1 v (nth vs j))
    (hv : runD env ro fn k n vs l σ) (hfin : ∀ σ' a' w' im' ρ', a'.tmps = a.tmps → finish env.P ro σ' fn.results.toList k → SA w0 noBor im0 im' ρ' σ' a' w' → ∃ v, (results fn a'.tmps).run env.P w' = .ok v w' ∧ R (.returned v) w') :
    Leaves env.P fn a.tmps R a.defers .returning w := by
  unfold runD at hv
  split at hv
  · rename_i fn' hf' hgs
    split at hv
    · rename_i c hb hle
      have hle := Nat.le_of_ble_eq_true hle
      have hgs := noGs_ok hgs
      have hdf : a.defers = [{ target := .fn (.func n) us, args := dargs }] := h.st.defers
      rw [hdf]
      refine leaves_cons (f := n) (args := vals) (by simp) (by simp only [invoke]; rw [hda]; exact hc vals w) ?_
      have hL : ∀ i b, lget σ.locs i = some b → ∃ x, ρ i = some x := fun i b hl => by
        obtain ⟨ob, h1, -⟩ := h.st.blk i b hl
        exact ⟨ob, h1⟩
      have hkl : (keepAll σ.locs vs).length = vs.length := by rw [keepAll_eq]; simp
      have h0 : SA w0 ⟨fun _ => False, pin, []⟩ im0 im ρ ⟨pad (keepAll σ.locs vs) fn'.ntmps, [], σ.locs⟩ { tmps := vals ++ Array.replicate (fn'.ntmps - vals.size) undef, defers := [] } w := by
        refine ⟨⟨rfl, ?_, fun i v hi => ?_, h.st.dom, h.st.blk, h.st.inj, h.st.notim, h.st.imlt, h.st.imold, h.st.imnew, h.st.own, h.st.pin, h.st.shp, h.st.blt, h.st.os, h.st.tape, h.st.output, h.st.size, h.st.frame⟩, h.uniq⟩
        · simp [pad, hkl]; omega
        · show Rep w im ρ v (nth (pad (keepAll σ.locs vs) fn'.ntmps) i)
          refine slot_pad (by rw [hkl]; exact hlen) (by rw [hkl]; exact hle) (fun j v hj => ?_) i v hi
          rw [keepAll_eq, nth_map_dead (by rfl)]
          exact keepP_rep (hvs j v hj) hpin1 h.st.pin hL
      refine CallsD.mono (callsD_of_wp (R := fun e w' => match e with | .returned _ => Leaves env.P fn a.tmps R [] .returning w' | _ => False) hf' hb ?_) fun e u' w' he => ?_
      · refine vc_sound (bor := ⟨fun _ => False, pin, []⟩) (w0 := w0) (im0 := im0) (sp := env.spec) (P := env.P) ⟨hΓ.h, hΓ.k, hΓ.b, ⟨hΓ.yg.1, fun _ h => h.elim⟩, hΓ.wd⟩ c (env := env) rfl rfl rfl h0 hv fun e σ' a' w' im' ρ' hk h' => ?_
        have key : (match resAV env.P σ' fn'.results.toList, noGs σ'.gs with
            | some _, true => match pinS 0 l ⟨keepAll σ'.locs σ.slots, [], σ'.locs⟩ with
              | σ5 => ifP (allHigh σ5.locs) (finish env.P ro σ5 fn.results.toList k)
            | _, _ => False) → a'.defers = [] ∧ ∃ v, (results fn' a'.tmps).run env.P w' = .ok v w' ∧ Leaves env.P fn a.tmps R [] .returning w' := fun hk => by
          split at hk
          · rename_i r hr hg
            obtain ⟨v, hres, -⟩ := results_ok h' (noGs_ok hg) hr
            refine ⟨h'.st.defers, v, hres, ?_⟩
            dsimp only at hk
            have h5 : SA w0 ⟨fun _ => False, pin, []⟩ im0 im' ρ' ⟨keepAll σ'.locs σ.slots, [], σ'.locs⟩ { a with defers := [] } w' := by
              refine ⟨⟨rfl, ?_, fun i v hi => ?_, h'.st.dom, h'.st.blk, h'.st.inj, h'.st.notim, h'.st.imlt, h'.st.imold, h'.st.imnew, h'.st.own, h'.st.pin, h'.st.shp, h'.st.blt, h'.st.os, h'.st.tape, h'.st.output, h'.st.size, h'.st.frame⟩, h'.uniq⟩
              · show a.tmps.size = _
                rw [h.st.len, keepAll_eq]; simp
              · have := h.st.slot i v hi
                unfold SRep at this
                rw [hgs] at this
                show Rep w' im' ρ' v (nth (keepAll σ'.locs σ.slots) i)
                rw [keepAll_eq, nth_map_dead (by rfl)]
                exact keepP_rep this h.st.pin h'.st.pin fun i b hl => by
                  obtain ⟨ob, h1, -⟩ := h'.st.blk i b hl
                  exact ⟨ob, h1⟩
            obtain ⟨ρ6, h6, -⟩ := pinS_ok l 0 h5
            obtain ⟨hhi, hk⟩ := ifP_ok hk
            have h7 : SA w0 noBor im0 im' ρ6 (pinS 0 l ⟨keepAll σ'.locs σ.slots, [], σ'.locs⟩) { a with defers := [] } w' := by
              refine ⟨⟨rfl, h6.st.len, h6.st.slot, h6.st.dom, h6.st.blk, h6.st.inj, h6.st.notim, h6.st.imlt, h6.st.imold, h6.st.imnew, h6.st.own, fun i x hlt hx => ?_, h6.st.shp, h6.st.blt, h6.st.os, h6.st.tape, h6.st.output, h6.st.size, h6.st.frame⟩, h6.uniq⟩
              exfalso
              cases hl : lget (pinS 0 l ⟨keepAll σ'.locs σ.slots, [], σ'.locs⟩).locs i with
              | none => rw [h6.st.dom i hl] at hx; cases hx
              | some b => have := allHigh_ok hhi i b hl; omega
            exact hfin _ { a with defers := [] } _ _ _ rfl hk h7
          · exact hk.elim
        cases e with
        | norm => exact key hk
        | ret => exact key hk
        | exit i => exact hk.elim
      · obtain ⟨rfl, he⟩ := he
        cases e with
        | returned v => exact he
        | panicked ch => exact he.elim
        | outgrown => exact he.elim
    · exact hv.elim
  · exact hv.elim
theorem vcTop_sound {env : Env} (hΓ : Gam env.P env.spec env.yw w0 noBor im0) {n : FuncId} (hcall : ∀ args w, (callFunc n args).run env.P w = .ok (.enter n args) w) {ro : Bool} {fn : Func} {k : AV → List (Option Blk) → List Blk → Prop} {R : Ending → World → Prop}
    (hfin : ∀ σ' a' w' im' ρ', finish env.P ro σ' fn.results.toList k → SA w0 noBor im0 im' ρ' σ' a' w' → ∃ v, (results fn a'.tmps).run env.P w' = .ok v w' ∧ R (.returned v) w') :
    ∀ (c : Code) {σ : AS} {a : Act} {w : World} {im : Nat → Prop} {ρ : Ids}, SA w0 noBor im0 im ρ σ a w → vcTop env ro n fn k c σ → c.wp env.P (bodyPostD env.P fn R) a w := by
  have fin : ∀ {σ' a' w' im' ρ'}, finish env.P ro σ' fn.results.toList k → SA w0 noBor im0 im' ρ' σ' a' w' → Leaves env.P fn a'.tmps R a'.defers .returning w' := fun hk h' => by
    rw [h'.st.defers]
    exact hfin _ _ _ _ _ hk h'
  have plain : ∀ (c : Code) {σ : AS} {a : Act} {w : World} {im : Nat → Prop} {ρ : Ids}, SA w0 noBor im0 im ρ σ a w → (vc env c σ fun e σ' => match e with
      | .exit _ => False
      | _ => finish env.P ro σ' fn.results.toList k) → c.wp env.P (bodyPostD env.P fn R) a w := fun c σ a w im ρ h hv =>
    vc_sound hΓ c (env := env) rfl rfl rfl h hv fun e σ' a' w' im' ρ' hk h' => by
      cases e with
      | norm => exact fin hk h'
      | ret => exact fin hk h'
      | exit i => exact hk.elim
  intro c
  induction c with
  | seq x y ihx ihy =>
    intro σ a w im ρ h hv
    unfold vcTop at hv
    refine wp_seq ?_
    split at hv
    · refine vc_sound hΓ x (env := env) rfl rfl rfl h hv fun e σ' a' w' im' ρ' hk h' => ?_
      cases e with
      | norm => exact ihy h' hk
      | ret => exact fin hk h'
      | exit i => exact hk.elim
    · rename_i id ops pre o c hd
      obtain ⟨rfl, hops, hop, hog⟩ := deferOf_eq hd
      refine wp_region_list ?_
      rw [hops]
      refine vcOpsN_sound hΓ pre _ h hv fun σ1 a1 w1 im1 ρ1 hk h1 => ?_
      split at hk
      · rename_i f hcl hgs
        split at hk
        · rename_i n' first cap hf
          split at hk
          case h_2 => exact hk.elim
          rename_i hnn
          have hnn := nbeq hnn
          rw [hnn] at hf
          clear hnn
          dsimp only at hk
          generalize hxs : first ++ c.args.toList.map (σ1.ev none) ++ cap = xs at hk
          have hgs := noGs_ok hgs
          have hr := h1.ev (g := none) (fun _ _ e => by cases e) f
          rw [hf] at hr
          obtain ⟨vs, us, hfe, hvs, hus, g1, g2⟩ := hr.inv_fn
          have hargs := args_rep a1.eval (σ1.ev none) (fun x => h1.ev (fun _ _ e => by cases e) x) c.args.toList
          have hrun : (execOp a1.eval o).run env.P w1 = .ok (.defer { target := .fn (.func n) us, args := vs ++ c.args.map a1.eval }) w1 := by
            simp only [execOp, hop, resolve, hcl, hfe, Deferred.ofValue, Sem.run_bind, Sem.run_pure, Result.andThen_ok]
          have hxl : (vs ++ c.args.map a1.eval ++ us).size = xs.length := by rw [← hxs]; simp [hvs, hus]
          have hxr : ∀ (j : Nat) (v : Value), (vs ++ c.args.map a1.eval ++ us)[j]? = some v → Rep w1 im1 ρ1 v (nth xs j) := by
            intro j v hj
            rw [← hxs]
            rw [Array.getElem?_append] at hj
            split at hj
            · rename_i hj1
              rw [nth_eq, List.getElem?_append_left (by simp at hj1 ⊢; omega), ← nth_eq]
              rw [Array.getElem?_append] at hj
              split at hj
              · rename_i hj2
                rw [nth_eq, List.getElem?_append_left (by omega), ← nth_eq]
                exact g1 j v hj
              · rename_i hj2
                rw [nth_eq, List.getElem?_append_right (by omega), ← nth_eq, ← hvs]
                exact hargs _ v (by simpa using hj)
            · rename_i hj1
              simp only [Array.size_append, Array.size_map] at hj1 hj
              rw [nth_eq, List.getElem?_append_right (by simp; omega), ← nth_eq]
              have e : j - (first ++ List.map (σ1.ev none) c.args.toList).length = j - (vs.size + c.args.size) := by simp [hvs]
              rw [e]
              exact g2 _ v hj
          generalize hl : idsL xs [] = l at hk
          obtain ⟨ρ2, h2, h2r⟩ := pinS_ok l 0 h1
          have hpl : ∀ (l : List Nat) (n : Nat) (xs : List AV), (pinV n l xs).length = xs.length := by
            intro l
            induction l with
            | nil => intro n xs; rfl
            | cons i r ih => intro n xs; rw [pinV, ih, renL_eq, List.length_map]
          have hpg : ∀ (l : List Nat) (n : Nat) (σ : AS), (pinS n l σ).gs = σ.gs := by
            intro l
            induction l with
            | nil => intro n σ; rfl
            | cons i r ih => intro n σ; rw [pinS, ih]; rfl
          have h3 : SA w0 ⟨fun _ => False, ρ2, [{ target := .fn (.func n) us, args := vs ++ c.args.map a1.eval }]⟩ im0 im1 ρ2 (pinS 0 l σ1) { a1 with defers := { target := .fn (.func n) us, args := vs ++ c.args.map a1.eval } :: a1.defers } w1 :=
            ⟨⟨by show _ :: a1.defers = _; rw [h1.st.defers]; rfl, h2.st.len, h2.st.slot, h2.st.dom, h2.st.blk, h2.st.inj, h2.st.notim, h2.st.imlt, h2.st.imold, h2.st.imnew, h2.st.own, h2.st.pin, h2.st.shp, h2.st.blt, h2.st.os, h2.st.tape, h2.st.output, h2.st.size, h2.st.frame⟩, h2.uniq⟩
          have hclash : (pinS 0 l σ1).clash o.dst = false := by
            unfold AS.clash
            cases o.dst with
            | none => rfl
            | some d => dsimp only; rw [hpg, hgs]; rfl
          have h4 := h3.put hclash (v := undef) undef_rep
          unfold wpList
          have hstep : o.wp env.P a1 w1 (wpList env.P ops (Exit.then (y.wp env.P (bodyPostD env.P fn R)) (bodyPostD env.P fn R)) []) (Exit.then (y.wp env.P (bodyPostD env.P fn R)) (bodyPostD env.P fn R)) := by
            unfold Oper.wp
            rw [hrun, Oper.upon_defer]
            show y.wp env.P (bodyPostD env.P fn R) _ w1
            refine vc_sound (bor := ⟨fun _ => False, ρ2, [{ target := .fn (.func n) us, args := vs ++ c.args.map a1.eval }]⟩) (w0 := w0) (im0 := im0) (sp := env.spec) (P := env.P) ⟨hΓ.h, hΓ.k, hΓ.b, ⟨hΓ.yg.1, fun _ h => h.elim⟩, hΓ.wd⟩ y (env := env) rfl rfl rfl h4 hk fun e σ' a' w' im' ρ' hk' h' => ?_
            have key : runD env ro fn k n (pinV 0 l xs) l σ' → Leaves env.P fn a'.tmps R a'.defers .returning w' := fun hk' => by
              exact runD_sound hΓ hcall rfl h' (by rw [hpl]; exact hxl) (fun _ _ _ hx => hx) (h2r _ _ hxr) hk' fun σ' a' w' im' ρ' _ hk h' => hfin _ _ _ _ _ hk h'
            cases e with
            | norm => exact key hk'
            | ret => exact key hk'
            | exit i => exact hk'.elim
          split
          · exact .inl hstep
          · rename_i hw
            exfalso
            apply hw
            simp [Region.wanted, hog]
        · exact hk.elim
      · exact hk.elim
  | skip => intro σ a w im ρ h hv; unfold vcTop at hv; exact plain _ h hv
  | _ => intros; rename_i h hv; unfold vcTop at hv; exact plain _ h hv
end
theorem fn_soundD {env : Env} (hΓ : ∀ f s, env.spec f = some s → Holds env.P f s) {f : FuncId} {fn : Func} {s : Spec} (hf : env.P.funcs[f]? = some fn)
    (hc : ∀ args w, (callFunc f args).run env.P w = .ok (.enter f args) w) {n : FuncId} (hcall : ∀ args w, (callFunc n args).run env.P w = .ok (.enter n args) w)
    (hv : ∀ args k, s.run args [] k → Nat.ble args.length fn.ntmps = true ∧ ∃ loops cuts, Ok (fnVCD { env with loops := loops, cuts := cuts } s.ro n fn args k)) (hown : s.own = [] := by rfl) (hyw : env.yw = (0, none) := by rfl) : Holds env.P f s := by
  refine HoldsA.h ?_ hown
  intro w im vals args k o a next Q him hKc hlen hrep hrun hnext
  rw [hc]
  obtain ⟨hle, loops, cuts, ⟨hv⟩⟩ := hv args k hrun
  unfold fnVCD at hv
  split at hv
  · exact hv.elim
  · rename_i c hb
    show Calls env.P f vals w _
    refine calls_of_wp_defers hf hb ?_
    have hle := Nat.le_of_ble_eq_true hle
    have hpad : (pad args fn.ntmps).length = fn.ntmps := by simp [pad]; omega
    have h0 : SA w noBor im im noIds ⟨pad args fn.ntmps, [], []⟩ { tmps := vals ++ Array.replicate (fn.ntmps - vals.size) undef, defers := [] } w := by
      refine ⟨⟨rfl, by simp [hpad]; omega, fun i v hi => ?_, fun _ _ => rfl, fun _ _ e => (by cases e), fun _ _ _ _ _ e => (by cases e), fun _ _ _ e => (by cases e), him, fun _ h => h, fun _ h => .inl h, fun _ _ _ e => (by cases e), fun _ _ _ e => (by cases e), fun _ e => (by cases e), fun _ e => (by cases e), rfl, rfl, rfl, Nat.le_refl _, fun _ _ _ => rfl⟩, List.nodup_nil⟩
      show Rep w im noIds v (nth (pad args fn.ntmps) i)
      exact slot_pad hlen hle hrep i v hi
    exact vcTop_sound (env := { env with loops := loops, cuts := cuts }) ⟨fun f s h => (hΓ f s h).n _, hKc, fun b hb => ⟨him b hb, fun e => e⟩, by show (env.yw).1 ≤ _ ∧ _; rw [hyw]; exact ⟨Nat.zero_le _, fun _ _ => Nat.zero_le _⟩, by show ∀ n, (env.yw).2 = some n → _; rw [hyw]; intro _ e; cases e⟩ hcall (fun σ' a' w' im' ρ' hk h' => by
      obtain ⟨v, im2, ρ2, r, F, h1, h2, h3⟩ := finish_sound h' hk him
      exact ⟨v, h1, hnext _ _ _ _ _ _ h2 h3⟩) c h0 hv
end Go.Eng
