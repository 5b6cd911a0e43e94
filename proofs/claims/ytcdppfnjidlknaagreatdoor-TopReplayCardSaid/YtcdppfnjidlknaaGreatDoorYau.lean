import Derived.Test.YtcdppfnjidlknaaGreatDoorYat
set_option linter.unusedVariables false
set_option linter.unusedSimpArgs false
namespace Go.Proofs.YtcdppfnjidlknaaGreatDoor
open Go Go.RowKit Go.Shelf Go.Proofs Go.Eng
set_option maxRecDepth 8000
theorem q7e {P:Program} {f:FuncId} {S:DSpec} (h:DH P f S) (hown:S.own=[]) (hc:∀ args w,(callFunc f args).run P w=.ok (.enter f args) w) {w:World} {im:Nat→Prop} {vals:Array Value} {args:List AV} {b:Bool} {e:Int}
  (him:∀ b,im b→b<w.heap.size) (hK:Kc w im) (hsz:vals.size=args.length) (hrep:∀ (j:Nat) (v:Value),vals[j]? = some v→Rep w im qai v (nth args j)) (hrun:∀ (R:Type) (K:KO R),S.run DOps.std R args [] K=K (.tup [.bool b,.int .i64 e]) [] []) :
  Calls P f vals w fun x w'=>x=.returned (.tuple #[.bool b,.int .i64 e])∧kwf .i64 e∧RowKit.Below w.heap.size w w':=by
 have:=h.out.a hown w im vals args (fun r _ _=>r=.tup [.bool b,.int .i64 e]) {(default:Oper) with dst:=some 0} {tmps:=#[undef],defers:=[]}
  (fun a' w'=>a'.tmps[0]? = some (.tuple #[.bool b,.int .i64 e])∧kwf .i64 e∧RowKit.Below w.heap.size w w') (fun _ _ _=>False) him hK hsz hrep ⟨AV,fun x _ _=>some x,_,hrun _ _,fun x _ _ hx=>by cases hx;rfl⟩
  (fun v w' im' ρ' r F hk hres=>by
   subst hk
   obtain⟨vs,rfl,h1,h2⟩:=hres.rep.inv_tup
   obtain⟨x,y,rfl⟩:∃ x y,vs=#[x,y]:=by
    obtain⟨l⟩:=vs
    match l,h1 with
    | [x,y],_=>exact⟨x,y,rfl⟩
   have e1:=(h2 0 x rfl).inv_bool
   obtain⟨e2,e3⟩:=(h2 1 y rfl).inv_int
   rw[e1,e2]
   exact⟨rfl,e3,hres.below⟩)
 rw[hc] at this
 refine qc5 (this:Calls P f vals w _) fun e' w' he=>?_
 cases e' with
 |returned v =>
  obtain⟨h1,h2,h3⟩:=he
  have:(#[undef].setIfInBounds 0 v)[0]? = some (Value.tuple #[.bool b,.int .i64 e]):=h1
  simp at this
  exact⟨by rw[this],h2,h3⟩
 |_=>first|exact he.elim|(obtain⟨_,_,h⟩:=he;exact h.elim)
theorem arr12 {cs:Array Value}(h:cs.size=12):∃ a0 a1 a2 a3 a4 a5 a6 a7 a8 a9 a10 a11,cs=#[a0,a1,a2,a3,a4,a5,a6,a7,a8,a9,a10,a11]:=by
 obtain⟨l⟩:=cs
 match l,h with
 | [a0,a1,a2,a3,a4,a5,a6,a7,a8,a9,a10,a11],_=>exact⟨_,_,_,_,_,_,_,_,_,_,_,_,rfl⟩
noncomputable def q0L (G:SiteT→Plan→Int→Option (Int×Int×Int)):DSpec:={ro:=true,run:=fun o R args _ k=>match args with
 | [.agg sc,.agg pc,.int κ t]=>match dec 25 sc,dec 10 pc,qcc κ .i64 with
  |some s,some p,true=>o.bind (G s p t) fun q=>k (.tup [.int .i64 q.1,.int .i64 q.2.1,.int .i64 q.2.2]) [] []
  |_,_,_=>none
 |_=>none}
theorem q7f {n:Int}(h:-9223372036854775808≤n∧n≤9223372036854775807):kwf .i64 n:=h
theorem kwfw (n:Int):kwf .i64 (IntKind.i64.wrap n):=by rw[IntKind.wrap_i64];exact q7f (by omega)
theorem qoD (pl:Int):∀ (zs:List Int) (i s:Int),kwf .i64 i→kwf .i64 (qaC pl zs i s).1∧kwf .i64 (qaC pl zs i s).2.1∧kwf .i64 (qaC pl zs i s).2.2
 | [],i,s,h=>by
  show kwf .i64 0∧kwf .i64 0∧kwf .i64 170
  exact⟨q7f (by decide),q7f (by decide),q7f (by decide)⟩
 |z::zs,i,s,h=>by
  rw[qaC]
  cases decide (pl<IntKind.i64.wrap (s+z))
  ·
   exact qoD pl zs _ _ (kwfw _)
  ·
   show kwf .i64 i∧kwf .i64 (IntKind.i64.wrap _)∧kwf .i64 0
   exact⟨h,kwfw _,q7f (by decide)⟩
theorem planN_in {is:Bool}{er:Int}(he:kwf .i64 er){p:Plan}{t:Int}{q:Int×Int×Int}(h:qoI (some (is,er)) p t=some q):kwf .i64 q.1∧kwf .i64 q.2.1∧kwf .i64 q.2.2:=by
 have z:∀ n:Int,-9223372036854775808≤n∧n≤9223372036854775807→kwf .i64 n:=fun n h=>h
 unfold qoI at h
 dsimp only at h
 cases h1:er != 0<;>rw[h1] at h
 ·
  cases h2:!is<;>rw[h2] at h
  ·
   cases h3:(decide (t<0)||decide (t > 1073741824))<;>rw[h3] at h
   ·
    simp only[cond_false] at h
    obtain⟨-,h4⟩:=req_ok h
    rw[← Option.some.inj h4]
    exact qoD _ _ _ _ (z 0 (by decide))
   ·
    simp only[cond_false,cond_true,Option.some.injEq] at h
    subst h;exact⟨z 0 (by decide),z 0 (by decide),z 2 (by decide)⟩
  ·
   simp only[cond_false,cond_true,Option.some.injEq] at h
   subst h;exact⟨z 0 (by decide),z 0 (by decide),z 170 (by decide)⟩
 ·
  simp only[cond_true,Option.some.injEq] at h
  subst h;exact⟨z 0 (by decide),z 0 (by decide),he⟩
theorem ints_of {w:World}{im:Nat→Prop} {ρ:Ids}{v:Value}{xs:List Int}(him:∀ b,im b→b<w.heap.size)(h:Rep w im ρ v (.sl 1 xs)):Ints w.heap.size w v xs:=by
 rcases q6Y h with ⟨rfl,a,rfl⟩|⟨b,off,cap,rfl,-,hb,hc⟩
 ·
  exact .inl ⟨a,rfl,rfl⟩
 ·
  refine .inr ⟨b,off,cap,rfl,him b hb,fun j hj=>?_⟩
  obtain⟨u,h1,h2⟩:=hc j (xs[j]'hj) (List.getElem?_eq_getElem hj) 0 (by decide)
  have e:=(show Rep w im qai u (.int .i64 (xs[j]'hj)) from h2).inv_int.1
  rw[List.getElem?_eq_getElem hj]
  have:off+j*szOf 1+0=off+j:=by show off+j*1+0=_;omega
  rw[this] at h1
  rw[h1,e];rfl
theorem q7g {S:DSpec} (hS:DH Tryz.prog 192 S) (hown:S.own=[]) (hc:∀ args w,(callFunc 192 args).run Tryz.prog w=.ok (.enter 192 args) w) {F:SiteT→Plan→Option (Bool×Int)} {G:SiteT→Plan→Int→Option (Int×Int×Int)}
  (hG:∀ s p t q,G s p t=some q→p.splits.length*8≤140737488351232∧qoI (F s p) p t=some q)
  (hrun:∀ (R:Type) (s:SiteT) (p:Plan) (t:Bool×Int) (K:KO R),F s p=some t→S.run DOps.std R [.agg (enc 25 s),.agg (enc 10 p)] [] K=K (.tup [.bool t.1,.int .i64 t.2]) [] []):DH Tryz.prog 146 (q0L G):=by
 refine⟨qcO.h ?_ rfl⟩
 intro w im vals args k o a next Q him hKc hlen hrep hrun' hnext
 obtain⟨R,K,r,hrn,hK⟩:=hrun'
 unfold q0L at hrn
 dsimp only at hrn
 split at hrn
 ·
  rename_i sc pc κ t
  split at hrn
  ·
   rename_i s p hs hp hk
   cases qaI hk
   obtain⟨q,h1,h2⟩:=qc4 hrn
   obtain⟨hl,hN⟩:=hG _ _ _ _ h1
   obtain⟨v0,v1,v2,rfl⟩:∃ a b c,vals=#[a,b,c]:=arr3 hlen
   obtain⟨ys,rfl,y1,y2,y3⟩:=(hrep 0 v0 rfl).inv_agg
   obtain⟨zs,rfl,z1,z2,z3⟩:=(hrep 1 v1 rfl).inv_agg
   obtain⟨rfl,-⟩:=(hrep 2 v2 rfl).inv_int
   have d1:=(qhC (w:=w) (im:=im) (ρ:=qai) 25 sc s hs).1
   have d2:=(qhC (w:=w) (im:=im) (ρ:=qai) 25 sc s hs).2
   have e1:=(qhC (w:=w) (im:=im) (ρ:=qai) 10 pc p hp).1
   have e2:=(qhC (w:=w) (im:=im) (ρ:=qai) 10 pc p hp).2
   have l25:(enc 25 s).length=12:=by cases s;rfl
   have l10:(enc 10 p).length=3:=by cases p;rfl
   have s25:ys.size=12:=y1.trans d1
   have s10:zs.size=3:=z1.trans e1
   have w0:Rep w im qai (.agg ys) (.agg (enc 25 s)):=.agg (s25.trans l25.symm) y2 fun j v h=>d2 j v (by have:=(Array.getElem?_eq_some_iff.1 h).1;show j<12;omega) (y3 j v h)
   have w1:Rep w im qai (.agg zs) (.agg (enc 10 p)):=.agg (s10.trans l10.symm) z2 fun j v h=>e2 j v (by have:=(Array.getElem?_eq_some_iff.1 h).1;show j<3;omega) (z3 j v h)
   obtain⟨is,er,hF⟩:∃ is er,F s p=some (is,er):=by
    cases hF:F s p with
    |none=>rw[hF] at hN;cases hN
    |some t=>exact⟨t.1,t.2,rfl⟩
   rw[hF] at hN
   have hCall:∀ w',RowKit.Below w.heap.size w w'→Calls Tryz.prog 192 #[.agg ys,.agg zs] w' fun x W'=>x=.returned (.tuple #[.bool is,.int .i64 er])∧kwf .i64 er∧RowKit.Below w'.heap.size w' W':=fun w' hB =>
    q7e hS hown hc (fun b hb=>Nat.lt_of_lt_of_le (him b hb) hB.size) (hKc.mono (fun b hb=>hb) (fun b hb=>hB.block b (him b hb))) (args:=[.agg (enc 25 s),.agg (enc 10 p)]) rfl (fun j v h=>by
     have st:∀ {v a},Rep w im qai v a→Rep w' im qai v a:=fun h=>h.stable (fun b hb=>hB.block b (him b hb)) (fun b hb=>hb) (fun _ _ h=>h) (fun _ _ _ h=>by simp[qai] at h)
     rcases j with _|_|j
     ·
      cases h;exact st w0
     ·
      cases h;exact st w1
     ·
      simp at h) (fun R K=>hrun R s p (is,er) K hF)
   obtain⟨_,_,_,⟨-,her,-⟩,-⟩:=hCall w (Below.refl _ _) []
   obtain⟨a0,a1,a2,a3,a4,a5,a6,a7,a8,a9,a10,a11,rfl⟩:=arr12 s25
   obtain⟨b0,b1,b2,rfl⟩:=arr3 s10
   have g0:b0=.int .i64 p.cycle:=(e2 0 b0 (by decide) (z3 0 b0 rfl)).inv_int.1
   have g1:b1=.int .i64 p.offset:=(e2 1 b1 (by decide) (z3 1 b1 rfl)).inv_int.1
   have g2:Rep w im qai b2 (.sl 1 p.splits):=e2 2 b2 (by decide) (z3 2 b2 rfl)
   subst g0 g1
   rw[Tryz.call146]
   refine qc5 (callsIn_wide.1 (at_in Fence.wide 3 trivial trivial trivial trivial rfl (by omega) a0 a1 a2 a3 a4 a5 a6 a7 a8 a9 a10 a11 p.cycle p.offset t b2 p.splits is er w (ints_of him g2) hl (fun w' hB=>callsIn_wide.2 (qc5 (hCall w' hB) fun _ _ h=>⟨h.1,h.2.2⟩)) q.1 q.2.1 q.2.2 hN)) fun e w' he=>?_
   obtain⟨rfl,hB⟩:=he
   have hin:=planN_in her hN
   exact hnext _ _ (fun b=>(true:Bool)=false∧im b) qai _ [] (hK _ _ _ h2) {below:=hB,imold:=fun e b hb=>⟨e,hb⟩,imnew:=fun b hb=>.inl hb,dom:=fun _ _=>rfl,blk:=fun j b hj=>by simp at hj,inj:=fun _ _ _ _ _ hi=>by simp[qai] at hi,notim:=fun _ _ _ hi=>by simp[qai] at hi,fresh:=fun _ _ _ hi=>by simp[qai] at hi,rep:=q3i (.int hin.1) (.int hin.2.1) (.int hin.2.2)}
  ·
   cases hrn
 ·
  cases hrn
end Go.Proofs.YtcdppfnjidlknaaGreatDoor
