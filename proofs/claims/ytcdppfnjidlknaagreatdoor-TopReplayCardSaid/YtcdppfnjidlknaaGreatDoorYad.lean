import Derived.Test.YtcdppfnjidlknaaGreatDoorYac
import Derived.Laws.Strings
set_option linter.unusedVariables false
set_option linter.unusedSimpArgs false
namespace Go.Eng
open Go
theorem qek {w:World} {im:Nat→Prop} {ρ:Ids} (f1:Operand→Value) (f2:Operand→AV) (hf:∀ x,Rep w im ρ (f1 x) (f2 x)) (l:List Operand) :
  ∀ (j:Nat) (v:Value),(l.map f1)[j]? = some v→Rep w im ρ v (nth (l.map f2) j):=by
 intro j v hj
 rw[List.getElem?_map] at hj
 cases hx:l[j]? with
 |none=>rw[hx] at hj;simp at hj
 |some x =>
  rw[hx] at hj
  simp at hj
  subst hj
  rw[quE _ _ _ _ hx]
  exact hf x
theorem q01 {P:Program} {w:World} {im:Nat→Prop} {ρ:Ids} {t:TypeId} {x ix:AV} {u ui:Value} {pre:List DP} {v:AV}
  (hx:Rep w im ρ u x) (hi:Rep w im ρ ui ix) (h:q0s P t x ix=.ok pre v) (hp:AllD pre) :
  ∃ val,Run P w (Instr.index t u ui) val∧Rep w im ρ val v:=by
 unfold q0s at h
 split at h
 ·
  rename_i k n s ht
  obtain⟨rfl,-⟩:=hi.inv_int
  simp only[PR.ok.injEq] at h;obtain⟨rfl,rfl⟩:=h
  obtain⟨h0,h1,-⟩:=hp
  have h0:0≤n:=h0
  have h1:n<(s.size:Int):=h1
  obtain rfl:u=.string s:=by cases hx;rfl
  have hl:n.toNat<s.data.toList.length:=by
   rw[Array.length_toList]
   show n.toNat<s.size
   omega
  have hb:qwM s n=((s.data.toList[n.toNat]'hl).toNat:Int):=by
   unfold qwM
   rw[List.getD_eq_getElem?_getD,List.getElem?_eq_getElem hl];rfl
  refine⟨.int .u8 (qwM s n),fun w hw=>?_,.int ?_⟩
  ·
   rw[run_index_string w t s k n ht,dif_pos ⟨h0,h1⟩,hb,Array.getElem_toList]
   rfl
  ·
   have:=UInt8.toNat_lt (s.data.toList[n.toNat]'hl)
   rw[hb]
   exact⟨by show (0:Int)≤_;omega,by show _≤(255:Int);omega⟩
 ·
  cases h
set_option maxHeartbeats 1000000 in
theorem qiL {P:Program} {w:World} {im:Nat→Prop} {ρ:Ids} {σ:AS} {a:Act} {g:Gd} {o:Oper} {pre:List DP} {v:AV}
  (hlen:a.tmps.size=σ.slots.length) (hs:∀ (i:Nat) (v:Value),a.tmps[i]? = some v→SRep w im ρ σ.gs σ.slots a.tmps i v)
  (hb:∀ i b,lget σ.locs i=some b→∃ ob,ρ i=some ob∧BRep w im ρ ob b) (hg:GdOK a g)
  (h:pop P σ g o=.ok pre v) (hp:AllD pre):∃ val,Run P w (execOp a.eval o) (.value val)∧Rep w im ρ val v:=by
 have ev:=qwR hlen hs hg
 unfold pop at h
 unfold execOp
 split at h<;>rename_i hop<;>simp only[hop]
 ·
  simp only[PR.ok.injEq] at h;obtain⟨rfl,rfl⟩:=h
  exact⟨_,fun w hw=>rfl,ev _⟩
 ·
  simp only[PR.ok.injEq] at h;obtain⟨rfl,rfl⟩:=h
  exact⟨_,fun w hw=>rfl,ev _⟩
 ·
  rename_i c x y
  obtain⟨b,hb',hr⟩:=q4F (ev c) (fun e=>q2S hlen hs hg e) (fun e=>q2S hlen hs hg e) h hp
  exact⟨_,fun w hw=>by simp[hb',asBool],hr⟩
 ·
  rename_i t parts
  unfold PR.bind1 at h
  split at h
  ·
   rename_i v' hv
   simp only[PR.ok.injEq] at h;obtain⟨rfl,rfl⟩:=h
   obtain⟨val,h1,h2⟩:=q00 a.eval (σ.ev g) ev hv
   exact⟨val,fun w hw=>by simp[h1 w hw],h2⟩
  ·
   cases h
 ·
  rename_i t x
  obtain⟨val,h1,h2⟩:=qrZ hb (ev x) h hp
  exact⟨val,fun w hw=>by simp[h1 w hw],h2⟩
 ·
  rename_i x
  have hx:=ev x
  generalize a.eval x=u at hx ⊢
  split at h<;>(try (cases h;done))<;>rename_i hx'<;>rw[hx'] at hx<;>simp only[PR.ok.injEq] at h<;>obtain⟨rfl,rfl⟩:=h
  ·
   obtain⟨b,m,h1,rfl⟩:=hx.inv_ptr
   exact⟨_,fun w hw=>rfl,.ptr h1⟩
  ·
   have hx2:=hx
   obtain⟨b,m,h1,rfl⟩:=hx.inv_eptr
   exact⟨_,fun w hw=>rfl,hx2⟩
  ·
   have hx2:=hx
   obtain⟨b,rfl⟩:∃ b,u=.pointer (some b):=by cases hx<;>exact⟨_,rfl⟩
   exact⟨_,fun w hw=>rfl,hx2⟩
 ·
  rename_i op t x y yt
  obtain⟨val,h1,h2⟩:=q67 (ox:=x) (oy:=y) (ev x) (ev y) h hp
  exact⟨val,fun w hw=>by have h1:=h1 w hw;simp only[Sem.run_bind,Result.andThen_ok,Sem.run_pure] at h1 ⊢;rw[h1];rfl,h2⟩
 ·
  rename_i op t x
  obtain⟨val,h1,h2⟩:=un_sound (P:=P) (ev x) h
  exact⟨val,fun w hw=>by simp[h1 w hw],h2⟩
 ·
  rename_i s d x
  obtain⟨val,h1,h2⟩:=q4E hb (ev x) h
  exact⟨val,fun w hw=>by simp[h1 w hw],h2⟩
 ·
  rename_i t x hi mx
  have hx:=ev x
  split at h
  ·
   rename_i e c i o n kh hh km m ht hx' hh' hm'
   split at h
   ·
    rename_i hsz
    obtain⟨i',hi',hsz',-⟩:=qaw hsz
    rw[hx'] at hx
    have r1:=ev hi;rw[hh'] at r1
    have r2:=ev mx;rw[hm'] at r2
    simp only[PR.ok.injEq] at h;obtain⟨rfl,rfl⟩:=h
    obtain⟨p1,p2,p3,-⟩:=hp
    obtain⟨val,h1,h2⟩:=qwT ht hi' hx hsz' r1 r2 p1 p2 p3
    exact⟨val,fun w hw=>by simp[h1 w hw],h2⟩
   ·
    cases h
  ·
   cases h
 ·
  rename_i t x lo hi
  have hopt:∀ (z:Option Operand),z.map (σ.ev g)=none∧z.map a.eval=none∨∃ p q,z.map (σ.ev g)=some p∧z.map a.eval=some q∧Rep w im ρ q p:=by
   intro z;cases z with
   |none=>exact .inl ⟨rfl,rfl⟩
   |some z=>exact .inr ⟨_,_,rfl,rfl,ev z⟩
  have hx:=ev x
  split at h
  ·
   rename_i e c xs ht hx'
   split at h
   ·
    rename_i hsz
    obtain⟨i,hi',hsz',-⟩:=qaw hsz
    rw[hx'] at hx
    obtain⟨val,h1,h2⟩:=qhS ht hi' (fun c' xs' e=>by cases e;exact hsz') (fun c' j o n e=>by cases e) hx (hopt lo) (hopt hi) h hp
    exact⟨val,fun w hw=>by simp[h1 w hw],h2⟩
   ·
    cases h
  ·
   rename_i e c j o n ht hx'
   split at h
   ·
    rename_i hsz
    obtain⟨i,hi',hsz',-⟩:=qaw hsz
    rw[hx'] at hx
    obtain⟨val,h1,h2⟩:=qhS ht hi' (fun c' xs' e=>by cases e) (fun c' j o n e=>by cases e;exact hsz') hx (hopt lo) (hopt hi) h hp
    exact⟨val,fun w hw=>by simp[h1 w hw],h2⟩
   ·
    cases h
  ·
   rename_i e ht hx'
   split at h
   ·
    rename_i i hi'
    rw[hx'] at hx
    obtain⟨val,h1,h2⟩:=qhS ht hi' (fun c' xs' e=>by cases e) (fun c' j o n e=>by cases e) hx (hopt lo) (hopt hi) h hp
    exact⟨val,fun w hw=>by simp[h1 w hw],h2⟩
   ·
    cases h
  ·
   cases h
 ·
  rename_i t x f
  have hx:=ev x
  generalize a.eval x=u at hx ⊢
  split at h<;>(try (cases h;done))<;>rename_i hf hx'<;>rw[hx'] at hx<;>split at h<;>(try (cases h;done))<;>rename_i hsz<;>simp only[PR.ok.injEq] at h<;>obtain⟨rfl,rfl⟩:=h
  ·
   obtain⟨b,m,h1,rfl⟩:=hx.inv_ptr
   exact⟨_,fun w hw=>by simp only[Sem.run_bind,qk7 hf hsz];rfl,.ptr h1⟩
  ·
   obtain⟨b,m,h1,rfl⟩:=hx.inv_eptr
   exact⟨_,fun w hw=>by simp only[Sem.run_bind,qk7 hf hsz];rfl,.eptr h1 (by rw[Nat.add_assoc])⟩
  ·
   cases hx with
   |iref hbim ho vals hcell hone hrep =>
    subst ho
    exact⟨_,fun w hw=>by simp only[Sem.run_bind,qk7 hf hsz];rfl,.iref hbim (by rw[Nat.add_assoc]) vals hcell hone hrep⟩
 ·
  rename_i t x f
  have hx:=ev x
  split at h
  ·
   rename_i off ft cs hf hx'
   rw[hx'] at hx
   unfold PR.bind1 at h
   split at h
   ·
    rename_i v' hv
    simp only[PR.ok.injEq] at h;obtain⟨rfl,rfl⟩:=h
    obtain⟨vs,h1,h2,h3,h4⟩:=hx.inv_agg
    obtain⟨val,h5,h6⟩:=part_agg (P:=P) (w:=w) h2 h3 h4 hv
    obtain⟨fs,fd,g1,g2,g3,g4⟩:=qlX hf
    subst g3;subst g4
    exact⟨val,fun w hw=>by simp[Instr.field,underlying,g1,g2,h1,asAgg,h5 w hw],h6⟩
   ·
    cases h
  ·
   cases h
 ·
  rename_i t x ix
  obtain⟨val,h1,h2⟩:=qoj (ev x) (ev ix) h hp
  exact⟨val,fun w hw=>by simp[h1 w hw],h2⟩
 ·
  rename_i t x ix
  obtain⟨val,h1,h2⟩:=q01 (ev x) (ev ix) h hp
  exact⟨val,fun w hw=>by simp[h1 w hw],h2⟩
 ·
  rename_i t i
  have hx:=ev t
  split at h
  ·
   rename_i vs hx'
   rw[hx'] at hx
   unfold PR.bind1 at h
   split at h
   ·
    rename_i v' hv
    simp only[PR.ok.injEq] at h;obtain⟨rfl,rfl⟩:=h
    unfold nthV at hv
    split at hv
    ·
     rename_i hlt
     simp only[Option.some.injEq] at hv;subst hv
     have hlt:i<vs.length:=by simpa [Nat.blt,Nat.succ_le_iff] using hlt
     obtain⟨us,h1,h2,h3⟩:=hx.inv_tup
     obtain⟨u,hu⟩:∃ u,us[i]? = some u:=⟨_,qar (by omega)⟩
     exact⟨u,fun w hw=>by simp[h1,Instr.extract,hu],h3 _ _ hu⟩
    ·
     cases hv
   ·
    cases h
  ·
   cases h
 ·
  rename_i fn first captured
  simp only[PR.ok.injEq] at h;obtain⟨rfl,rfl⟩:=h
  refine⟨_,fun w hw=>rfl,.fn (by simp) (by simp) (fun j v hj=>?_) (fun j v hj=>?_)⟩
  ·
   exact qek a.eval (σ.ev g) ev first.toList j v (by simpa using hj)
  ·
   exact qek a.eval (σ.ev g) ev captured.toList j v (by simpa using hj)
 ·
  rename_i c
  have hargs:=qek a.eval (σ.ev g) ev c.args.toList
  split at h
  ·
   rename_i x hc hx
   split at h
   ·
    rename_i d hd
    obtain⟨y,hy⟩:∃ y,c.args.toList=[y]:=by
     cases hl:c.args.toList with
     |nil=>simp[hl] at hx
     |cons y r=>cases r with
      |nil=>exact⟨y,rfl⟩
      |cons=>simp[hl] at hx
    simp[hy] at hx
    have hx2:=ev y
    rw[hx] at hx2
    have hay:c.args=#[y]:=by rw[← Array.toArray_toList (xs:=c.args),hy]
    obtain⟨t,ts,hts,htd⟩:∃ t ts,c.argTypes=(t::ts).toArray∧P.underlying t=some d:=by
     cases hl:c.argTypes.toList with
     |nil =>
      have:c.argTypes=#[]:=by rw[← Array.toArray_toList (xs:=c.argTypes),hl]
      simp[this] at hd
     |cons t ts =>
      have:c.argTypes=(t::ts).toArray:=by rw[← Array.toArray_toList (xs:=c.argTypes),hl]
      refine⟨t,ts,this,?_⟩
      rw[this] at hd
      simpa using hd
    obtain⟨val,h1,h2⟩:=q62 htd hx2 h ts o.type
    refine⟨val,fun w hw=>?_,h2⟩
    have h1:=h1 w hw
    simp only[resolve,hc,hay,hts,Sem.run_bind,Sem.run_pure,Result.andThen_ok,invoke,builtin,List.map_toArray,List.map_cons,List.map_nil,h1]
   ·
    cases h
  ·
   rename_i x r hc hx
   unfold PR.bind1 at h
   split at h
   ·
    rename_i v' hv
    simp only[PR.ok.injEq] at h;obtain⟨rfl,rfl⟩:=h
    obtain⟨y,ys,hy⟩:∃ y ys,c.args.toList=y::ys:=by
     cases hl:c.args.toList with
     |nil=>simp[hl] at hx
     |cons y r=>exact⟨y,r,rfl⟩
    simp only[hy,List.map_cons,List.cons.injEq] at hx
    obtain⟨rfl,rfl⟩:=hx
    obtain⟨val,h1,h2⟩:=qiK (P:=P) true (ys.map (σ.ev g)) (ys.map a.eval) _ (a.eval y) v' (ev y) (by simp) (qek a.eval (σ.ev g) ev ys) hv
    refine⟨val,fun w hw=>?_,h2⟩
    have h1:=h1 w hw
    have hay:c.args=(y::ys).toArray:=by rw[← Array.toArray_toList (xs:=c.args),hy]
    simp only[if_true] at h1
    simp only[resolve,hc,hay,Sem.run_bind,Sem.run_pure,Result.andThen_ok,invoke,builtin,List.map_toArray,List.map_cons,Builtin.min_,h1]
   ·
    cases h
  ·
   rename_i x r hc hx
   unfold PR.bind1 at h
   split at h
   ·
    rename_i v' hv
    simp only[PR.ok.injEq] at h;obtain⟨rfl,rfl⟩:=h
    obtain⟨y,ys,hy⟩:∃ y ys,c.args.toList=y::ys:=by
     cases hl:c.args.toList with
     |nil=>simp[hl] at hx
     |cons y r=>exact⟨y,r,rfl⟩
    simp only[hy,List.map_cons,List.cons.injEq] at hx
    obtain⟨rfl,rfl⟩:=hx
    obtain⟨val,h1,h2⟩:=qiK (P:=P) false (ys.map (σ.ev g)) (ys.map a.eval) _ (a.eval y) v' (ev y) (by simp) (qek a.eval (σ.ev g) ev ys) hv
    refine⟨val,fun w hw=>?_,h2⟩
    have h1:=h1 w hw
    have hay:c.args=(y::ys).toArray:=by rw[← Array.toArray_toList (xs:=c.args),hy]
    simp only[Bool.false_eq_true,if_false] at h1
    simp only[resolve,hc,hay,Sem.run_bind,Sem.run_pure,Result.andThen_ok,invoke,builtin,List.map_toArray,List.map_cons,Builtin.max_,h1]
   ·
    cases h
  ·
   rename_i hc hx
   split at h
   ·
    rename_i e hd
    simp only[PR.ok.injEq] at h;obtain⟨rfl,rfl⟩:=h
    obtain⟨y,hy⟩:∃ y,c.args.toList=[y]:=by
     cases hl:c.args.toList with
     |nil=>simp[hl] at hx
     |cons y r =>
      cases r with
      |nil=>exact⟨y,rfl⟩
      |cons _ _=>simp[hl] at hx
    have hx2:=ev y
    simp only[hy,List.map_cons,List.map_nil,List.cons.injEq,and_true] at hx
    rw[hx] at hx2
    have hev:=hx2.inv_nilsl
    have hay:c.args=#[y]:=by rw[← Array.toArray_toList (xs:=c.args),hy]
    obtain⟨t,ts,hts,htd⟩:∃ t ts,c.argTypes=(t::ts).toArray∧P.underlying t=some (.slice e):=by
     cases hl:c.argTypes.toList with
     |nil =>
      have:c.argTypes=#[]:=by rw[← Array.toArray_toList (xs:=c.argTypes),hl]
      simp[this] at hd
     |cons t ts =>
      have:c.argTypes=(t::ts).toArray:=by rw[← Array.toArray_toList (xs:=c.argTypes),hl]
      refine⟨t,ts,this,?_⟩
      rw[this] at hd
      simpa using hd
    refine⟨.int .i64 0,fun w hw=>?_,.int (quF _)⟩
    simp only[resolve,hc,hay,hts,Sem.run_bind,Sem.run_pure,Result.andThen_ok,invoke,builtin,List.map_toArray,List.map_cons,List.map_nil,hev]
    simp[Builtin.cap_,underlying,htd,goInt]
   ·
    cases h
  ·
   cases h
 ·
  cases h
end Go.Eng
namespace Go.Eng
open Go
theorem qhB (gs:List (Nat×Nat×Bool))(d:Nat):gget (gdel gs d) d=none:=by
 induction gs with
 |nil=>rfl
 |cons x r ih =>
  obtain⟨t,g⟩:=x
  unfold gdel
  split
  ·
   exact ih
  ·
   rename_i h
   obtain⟨g1,g2⟩:=g
   simp only[gget,h]
   exact ih
theorem qcI (gs:List (Nat×Nat×Bool)){d i:Nat}(hi:i≠d):gget (gdel gs d) i=gget gs i:=by
 induction gs with
 |nil=>rfl
 |cons x r ih =>
  obtain⟨t,g1,g2⟩:=x
  unfold gdel
  split
  ·
   rename_i h
   have:=nbeq h
   subst this
   rw[ih]
   have:Nat.beq t i=false:=by
    cases h':Nat.beq t i with
    |false=>rfl
    |true=>exact absurd (nbeq h').symm hi
   simp only[gget,this]
  ·
   simp only[gget]
   rw[ih]
theorem clash_ne {gs:List (Nat×Nat×Bool)}{d i tc:Nat}{w:Bool}(h:clash gs d=false)(hg:gget gs i=some (tc,w)):tc≠d:=by
 induction gs with
 |nil=>cases hg
 |cons x r ih =>
  obtain⟨t,g1,g2⟩:=x
  unfold clash at h
  split at h
  ·
   cases h
  ·
   rename_i h'
   unfold gget at hg
   split at hg
   ·
    simp only[Option.some.injEq,Prod.mk.injEq] at hg
    obtain⟨rfl,rfl⟩:=hg
    exact qbA h'
   ·
    exact ih h hg
section st
variable {w0 : World} {bor : Bor} {im0 im : Nat → Prop} {ρ : Ids} {sl : List AV} {gs : List (Nat × Nat × Bool)} {L : Nat → Option Blk} {a : Act} {w : World}
theorem q02 (a:Act)(d:Nat)(v:Value)(i:Nat):(a.put (some d) v).tmps[i]? = if d=i∧i<a.tmps.size then some v else a.tmps[i]?:=by
 show (a.tmps.setIfInBounds d v)[i]? = _
 rw[Array.getElem?_setIfInBounds]
 by_cases h:d=i
 ·
  subst h
  by_cases hl:d<a.tmps.size
  ·
   simp[hl]
  ·
   simp[hl]
 ·
  simp[h]
theorem St.putAny (h:St w0 bor im0 im ρ sl gs L a w) {d:Nat} (hc:clash gs d=false) {v:Value} {av:AV} {gs':List (Nat×Nat×Bool)}
  (hg':∀ i,i≠d→gget gs' i=gget gs i)
  (hd:SRep w im ρ gs' (qav sl d av) (a.put (some d) v).tmps d v∨a.tmps.size≤d):St w0 bor im0 im ρ (qav sl d av) gs' L (a.put (some d) v) w where
 defers:=h.defers
 len:=by rw[qb7];simp[Act.put,h.len]
 slot:=by
  intro i u hu
  rw[q02] at hu
  by_cases hi:d=i
  ·
   subst hi
   by_cases hl:d<a.tmps.size
   ·
    rw[if_pos ⟨rfl,hl⟩] at hu
    simp only[Option.some.injEq] at hu
    subst hu
    exact hd.resolve_right (by omega)
   ·
    rw[if_neg (by omega)] at hu
    have:=qf0 hu
    omega
  ·
   rw[if_neg (by omega)] at hu
   have h1:=h.slot i u hu
   unfold SRep at h1 ⊢
   rw[hg' i (Ne.symm hi)]
   have e1:nth (qav sl d av) i=nth sl i:=by rw[qdD,if_neg (by omega)]
   rw[e1]
   cases hgi:gget gs i with
   |none=>rw[hgi] at h1;exact h1
   |some x =>
    obtain⟨tc,wt⟩:=x
    rw[hgi] at h1
    dsimp only at h1 ⊢
    have:=clash_ne hc hgi
    rw[q02,if_neg (by omega)]
    exact h1
 dom:=h.dom
 blk:=h.blk
 inj:=h.inj
 notim:=h.notim
 imlt:=h.imlt
 imold:=h.imold
 imnew:=h.imnew
 own:=h.own
 pin:=h.pin
 shp:=h.shp
 blt:=h.blt
 os:=h.os
 tape:=h.tape
 output:=h.output
 size:=h.size
 frame:=h.frame
theorem St.put {σ:AS} (h:St w0 bor im0 im ρ σ.slots σ.gs L a w) {dst:Option Tmp} (hc:σ.clash dst=false) {v:Value} {av:AV} (hr:Rep w im ρ v av) :
  St w0 bor im0 im ρ (σ.put dst none av).slots (σ.put dst none av).gs L (a.put dst v) w:=by
 cases dst with
 |none=>exact h
 |some d =>
  refine h.putAny hc (fun i hi=>qcI _ hi) ?_
  rcases Nat.lt_or_ge d a.tmps.size with hl|hl
  ·
   left
   unfold SRep
   have e:gget (σ.put (some d) none av).gs d=none:=qhB _ _
   rw[e]
   dsimp only
   rw[qdD,if_pos ⟨rfl,by rw[← h.len];exact hl⟩]
   exact hr
  ·
   exact .inr hl
theorem St.putG {σ:AS} (h:St w0 bor im0 im ρ σ.slots σ.gs L a w) {dst:Option Tmp} (hc:σ.clash dst=false) {tc:Nat} {wt:Bool} (hd:∀ d,dst=some d→d≠tc) {v:Value} {av:AV}
  (h1:a.tmps[tc]? = some (.bool wt)→Rep w im ρ v av) (h2:a.tmps[tc]?≠some (.bool wt)→v=undef) :
  St w0 bor im0 im ρ (σ.put dst (some (tc,wt)) av).slots (σ.put dst (some (tc,wt)) av).gs L (a.put dst v) w:=by
 cases dst with
 |none=>exact h
 |some d =>
  have hne:=hd d rfl
  have hg:∀ i,i≠d→gget ((d,tc,wt)::gdel σ.gs d) i=gget σ.gs i:=by
   intro i hi
   have:Nat.beq d i=false:=by
    cases h':Nat.beq d i with
    |false=>rfl
    |true=>exact absurd (nbeq h').symm hi
   simp only[gget,this]
   exact qcI _ hi
  refine h.putAny hc hg ?_
  rcases Nat.lt_or_ge d a.tmps.size with hl|hl
  ·
   left
   unfold SRep
   have:Nat.beq d d=true:=Nat.beq_refl d
   have e:gget (σ.put (some d) (some (tc,wt)) av).gs d=some (tc,wt):=by
    show gget ((d,tc,wt)::gdel σ.gs d) d=_
    simp only[gget,this]
   rw[e]
   dsimp only
   rw[qdD,if_pos ⟨rfl,by rw[← h.len];exact hl⟩,q02,if_neg (fun e=>hne e.1)]
   exact⟨h1,h2⟩
  ·
   exact .inr hl
theorem qbj {w w':World}{b:Nat}(h:w'.heap[b]? = w.heap[b]?):w'.shape? b=w.shape? b:=by simp[World.shape?,h]
theorem BRep.stable {w w':World} {im im':Nat→Prop} {ρ ρ':Ids} {ob:Option Nat×Nat} {b:Blk} (h:BRep w im ρ ob b)
  (hw:∀ b,im b→w'.heap[b]? = w.heap[b]?) (him:∀ b,im b→im' b) (hρ:∀ i x,ρ i=some x→ρ' i=some x)
  (hs:∀ i b m,ρ i=some (some b,m)→w'.shape? b=w.shape? b) (hb:∀ x,ob.1=some x→w'.heap[x]? = w.heap[x]?):BRep w' im' ρ' ob b:=by
 cases b with
 |cells cs =>
  obtain⟨b,cur,e,h1,h2,h3,h4,h5⟩:=h
  exact⟨b,cur,e,h1,(hb b h1).trans h2,h3,h4,fun j v hj=>(h5 j v hj).stable hw him hρ hs⟩
 |row c xs =>
  obtain⟨h0,h⟩:=h
  refine⟨h0,h.imp id ?_⟩
  rintro⟨b,cur,e,cap,h1,h2,h3,h4,h5,h6,h7⟩
  exact⟨b,cur,e,cap,h1,(hb b h1).trans h2,h3,h4,h5,h6,fun i j x v hx hj hv=>(h7 i j x v hx hj hv).stable hw him (fun _ _ h=>h) (fun _ _ _ h=>by simp[qai] at h)⟩
theorem BRep.lt {ob:Option Nat×Nat}{b:Blk}(h:BRep w im ρ ob b){x:Nat}(hx:ob.1=some x):x<w.heap.size:=by
 cases b with
 |cells cs =>
  obtain⟨b,cur,e,h1,h2,-⟩:=h
  rw[h1] at hx;cases hx
  exact(Array.getElem?_eq_some_iff.1 h2).1
 |row c xs =>
  obtain⟨-,h|⟨b,cur,e,cap,h1,h2,-⟩⟩:=h
  ·
   rw[h.1] at hx;cases hx
  ·
   rw[h1] at hx;cases hx
   exact(Array.getElem?_eq_some_iff.1 h2).1
theorem St.rholt (h:St w0 bor im0 im ρ sl gs L a w){i b m:Nat}(hi:ρ i=some (some b,m)):b<w.heap.size:=by
 cases hl:L i with
 |none=>rw[h.dom i hl] at hi;cases hi
 |some blk =>
  obtain⟨ob,h1,h2⟩:=h.blk i blk hl
  rw[h1] at hi
  simp only[Option.some.injEq] at hi
  subst hi
  exact h2.lt rfl
theorem St.world (h:St w0 bor im0 im ρ sl gs L a w) {w':World} (hkeep:∀ b,b<w.heap.size→w'.heap[b]? = w.heap[b]?)
  (hos:w'.os=w.os) (ht:w'.tape=w.tape) (ho:w'.output=w.output) (hsz:w.heap.size≤w'.heap.size):St w0 bor im0 im ρ sl gs L a w':=by
 have h1:∀ b,im b→w'.heap[b]? = w.heap[b]?:=fun b hb=>hkeep b (h.imlt b hb)
 have h2:∀ i b m,ρ i=some (some b,m)→w'.shape? b=w.shape? b:=fun i b m hb=>qbj (hkeep b (h.rholt hb))
 exact{h with
  slot:=fun i v hv=>by
   have hs:=h.slot i v hv
   unfold SRep at hs ⊢
   split
   ·
    rename_i hg;rw[hg] at hs;exact hs.stable h1 (fun _ h=>h) (fun _ _ h=>h) h2
   ·
    rename_i tc wt hg
    rw[hg] at hs
    exact⟨fun e=>(hs.1 e).stable h1 (fun _ h=>h) (fun _ _ h=>h) h2,hs.2⟩
  blk:=fun i b hb=>by
   obtain⟨ob,h3,h4⟩:=h.blk i b hb
   exact⟨ob,h3,h4.stable h1 (fun _ h=>h) (fun _ _ h=>h) h2 (fun x hx=>hkeep x (h4.lt hx))⟩
  imlt:=fun b hb=>Nat.lt_of_lt_of_le (h.imlt b hb) hsz
  os:=hos.trans h.os
  tape:=ht.trans h.tape
  output:=ho.trans h.output
  size:=Nat.le_trans h.size hsz
  shp:=fun b hb=>(qbj (hkeep b (Nat.lt_of_lt_of_le (h.blt b hb) h.size))).trans (h.shp b hb)
  frame:=fun b hb hn=>(hkeep b (Nat.lt_of_lt_of_le hb h.size)).trans (h.frame b hb hn)}
theorem St.drew (h:St w0 bor im0 im ρ sl gs L a w):St w0 bor im0 im ρ sl gs L a w.drew:=h.world (fun _ _=>rfl) rfl rfl rfl (Nat.le_refl _)
def upd {α:Type}(f:Nat→Option α)(i:Nat)(x:Option α):Nat→Option α:=fun j=>if j=i then x else f j
theorem St.add (h:St w0 bor im0 im ρ sl gs L a w) {id:Nat} (hid:L id=none) (hge:900≤id) {ob:Option Nat×Nat} {blk:Blk} (hB:BRep w im ρ ob blk)
  (hnew:∀ b,ob.1=some b→¬ im b∧(∀ j m,ρ j≠some (some b,m))∧(w0.heap.size≤b∨bor.mem b)) :
  St w0 bor im0 im (upd ρ id (some ob)) sl gs (upd L id (some blk)) a w:=by
 have hρ:∀ i x,ρ i=some x→upd ρ id (some ob) i=some x:=by
  intro i x hi
  unfold upd
  rw[if_neg]
  ·
   exact hi
  ·
   rintro rfl
   rw[h.dom _ hid] at hi;cases hi
 exact{h with
  slot:=fun i v hv=>by
   have hs:=h.slot i v hv
   unfold SRep at hs ⊢
   split
   ·
    rename_i hg;rw[hg] at hs;exact hs.stable (fun _ _=>rfl) (fun _ h=>h) hρ (fun _ _ _ _=>rfl)
   ·
    rename_i tc wt hg
    rw[hg] at hs
    exact⟨fun e=>(hs.1 e).stable (fun _ _=>rfl) (fun _ h=>h) hρ (fun _ _ _ _=>rfl),hs.2⟩
  dom:=fun i hi=>by
   unfold upd at hi ⊢
   split at hi
   ·
    cases hi
   ·
    rename_i hne;rw[if_neg hne];exact h.dom i hi
  blk:=fun i b hb=>by
   unfold upd at hb
   split at hb
   ·
    rename_i e
    subst e
    simp only[Option.some.injEq] at hb
    subst hb
    exact⟨ob,by simp[upd],hB.stable (fun _ _=>rfl) (fun _ h=>h) hρ (fun _ _ _ _=>rfl) (fun _ _=>rfl)⟩
   ·
    obtain⟨ob',h3,h4⟩:=h.blk i b hb
    exact⟨ob',hρ _ _ h3,h4.stable (fun _ _=>rfl) (fun _ h=>h) hρ (fun _ _ _ _=>rfl) (fun _ _=>rfl)⟩
  inj:=fun i j b m m' hi hj=>by
   unfold upd at hi hj
   split at hi<;>split at hj
   ·
    omega
   ·
    simp only[Option.some.injEq] at hi
    exact absurd hj ((hnew b (by rw[hi])).2.1 j m')
   ·
    simp only[Option.some.injEq] at hj
    exact absurd hi ((hnew b (by rw[hj])).2.1 i m)
   ·
    exact h.inj i j b m m' hi hj
  notim:=fun i b m hi=>by
   unfold upd at hi
   split at hi
   ·
    simp only[Option.some.injEq] at hi
    exact(hnew b (by rw[hi])).1
   ·
    exact h.notim i b m hi
  own:=fun i b m hi=>by
   unfold upd at hi
   split at hi
   ·
    simp only[Option.some.injEq] at hi
    exact(hnew b (by rw[hi])).2.2
   ·
    exact h.own i b m hi
  pin:=fun i x hlt hi=>by
   unfold upd at hi
   split at hi
   ·
    omega
   ·
    exact h.pin i x hlt hi}
theorem St.set (h:St w0 bor im0 im ρ sl gs L a w) {i b m:Nat} {ob:Blk} (hi:ρ i=some (some b,m)) (hL:L i=some ob) {w':World} {nb:Blk}
  (hkeep:∀ x,x≠b→w'.heap[x]? = w.heap[x]?) (hshape:w'.shape? b=w.shape? b)
  (hos:w'.os=w.os) (ht:w'.tape=w.tape) (ho:w'.output=w.output) (hsz:w.heap.size≤w'.heap.size)
  (hB:BRep w' im ρ (some b,m) nb):St w0 bor im0 im ρ sl gs (upd L i (some nb)) a w':=by
 have h1:∀ x,im x→w'.heap[x]? = w.heap[x]?:=fun x hx=>hkeep x (by rintro rfl;exact h.notim i _ m hi hx)
 have h2:∀ j x m',ρ j=some (some x,m')→w'.shape? x=w.shape? x:=fun j x m' hx=>by
  by_cases e:x=b
  ·
   subst e;exact hshape
  ·
   exact qbj (hkeep x e)
 exact{h with
  slot:=fun j v hv=>by
   have hs:=h.slot j v hv
   unfold SRep at hs ⊢
   split
   ·
    rename_i hg;rw[hg] at hs;exact hs.stable h1 (fun _ h=>h) (fun _ _ h=>h) h2
   ·
    rename_i tc wt hg
    rw[hg] at hs
    exact⟨fun e=>(hs.1 e).stable h1 (fun _ h=>h) (fun _ _ h=>h) h2,hs.2⟩
  dom:=fun j hj=>by
   unfold upd at hj
   split at hj
   ·
    cases hj
   ·
    exact h.dom j hj
  blk:=fun j b' hb'=>by
   unfold upd at hb'
   split at hb'
   ·
    rename_i e
    subst e
    simp only[Option.some.injEq] at hb'
    subst hb'
    exact⟨_,hi,hB⟩
   ·
    rename_i hne
    obtain⟨ob,h3,h4⟩:=h.blk j b' hb'
    refine⟨ob,h3,h4.stable h1 (fun _ h=>h) (fun _ _ h=>h) h2 (fun x hx=>hkeep x ?_)⟩
    rintro rfl
    obtain⟨o1,o2⟩:=ob
    dsimp only at hx
    subst hx
    exact hne (h.inj j i _ _ _ h3 hi)
  imlt:=fun b hb=>Nat.lt_of_lt_of_le (h.imlt b hb) hsz
  os:=hos.trans h.os
  tape:=ht.trans h.tape
  output:=ho.trans h.output
  size:=Nat.le_trans h.size hsz
  shp:=fun x hx=>by
   by_cases e:x=b
   ·
    subst e;exact hshape.trans (h.shp x hx)
   ·
    exact(qbj (hkeep x e)).trans (h.shp x hx)
  frame:=fun x hx hn=>by
   refine(hkeep x ?_).trans (h.frame x hx hn)
   rintro rfl
   rcases h.own i _ m hi with h5|h5
   ·
    omega
   ·
    exact hn h5}
theorem qdg (i:Nat):∀ (l:List AV),qbI i l=l.map (kill i)
 | []=>rfl
 |a::r=>by simp[qbI,qdg i r]
theorem qag {f:AV→AV}(hf:f .dead=.dead)(l:List AV)(j:Nat):nth (l.map f) j=f (nth l j):=by
 rcases Nat.lt_or_ge j l.length with h|h
 ·
  exact q60 f l j h
 ·
  rw[qiG _ _ (by simpa using h),qiG _ _ h,hf]
theorem Rep.kill {im:Nat→Prop} {ρ:Ids}{v:Value}{x:AV}(h:Rep w im ρ v x)(i:Nat):Rep w im (upd ρ i none) v (Eng.kill i x):=by
 have hu:∀ {ρ:Ids} {j:Nat} {x:Option Nat×Nat},ρ j=some x→Nat.beq i j=false→upd ρ i none j=some x:=fun{ρ j x} hj hb=>by
  unfold upd
  rw[if_neg (fun e=>qbA hb e.symm)]
  exact hj
 induction h with
 |int h=>exact .int h
 |bool=>exact .bool
 |str h=>exact .str h
 |nilptr=>exact .nilptr
 |nilsl=>exact .nilsl
 |nilfn=>exact .nilfn
 |sl0=>exact .sl0
 |emp=>exact .emp
 |sl hb hn hcap hm vals hcell hone hrep ih=>exact .sl hb hn hcap hm vals hcell hone hrep
 |iref hb ho vals hcell hone hrep ih=>exact .iref hb ho vals hcell hone hrep
 |row0 h =>
  unfold Eng.kill
  split
  ·
   exact .dead
  ·
   exact .row0 (hu h ‹_›)
 |row h hle ho hn hm hs =>
  unfold Eng.kill
  split
  ·
   exact .dead
  ·
   exact .row (hu h ‹_›) hle ho hn hm hs
 |rowE h ho hm =>
  unfold Eng.kill
  split
  ·
   exact .dead
  ·
   exact .rowE (hu h ‹_›) ho hm
 |ptr h =>
  unfold Eng.kill
  split
  ·
   exact .dead
  ·
   exact .ptr (hu h ‹_›)
 |eptr h ho =>
  unfold Eng.kill
  split
  ·
   exact .dead
  ·
   exact .eptr (hu h ‹_›) ho
 |agg hl hone h ih =>
  unfold Eng.kill
  rw[qdg]
  exact .agg (by simpa using hl) hone fun j v hj=>by rw[qag (by rfl)];exact ih j v hj
 |tup hl h ih =>
  unfold Eng.kill
  rw[qdg]
  exact .tup (by simpa using hl) fun j v hj=>by rw[qag (by rfl)];exact ih j v hj
 |fn hl hl' h h' ih ih' =>
  unfold Eng.kill
  rw[qdg,qdg]
  exact .fn (by simpa using hl) (by simpa using hl') (fun j v hj=>by rw[qag (by rfl)];exact ih j v hj) (fun j v hj=>by rw[qag (by rfl)];exact ih' j v hj)
 |dead=>exact .dead
 |val=>exact .val
 |both h h'=>exact .both h h'
 |wsl hn hm h0 h=>exact .wsl hn hm h0 h
 |wref hb hn hx hc hf=>exact .wref hb hn hx hc hf
 |anyb h=>exact .anyb h
theorem St.del (h:St w0 bor im0 im ρ sl gs L a w) (i:Nat) :
  St w0 bor im0 im (upd ρ i none) (qbI i sl) gs (fun j=>if j=i then none else (L j).map (Blk.map (qbI i))) a w:=by
 rw[qdg]
 have hle:∀ {j x},upd ρ i none j=some x→ρ j=some x:=fun{j x} hj=>by
  unfold upd at hj
  split at hj
  ·
   cases hj
  ·
   exact hj
 exact{h with
  len:=by simpa using h.len
  slot:=fun j v hv=>by
   have hs:=h.slot j v hv
   unfold SRep at hs ⊢
   rw[qag (by rfl)]
   split
   ·
    rename_i hg;rw[hg] at hs;exact hs.kill i
   ·
    rename_i tc wt hg
    rw[hg] at hs
    exact⟨fun e=>(hs.1 e).kill i,hs.2⟩
  dom:=fun j hj=>by
   unfold upd
   split
   ·
    rfl
   ·
    rename_i hne
    simp only[hne,if_false,Option.map_eq_none_iff] at hj
    exact h.dom j hj
  blk:=fun j b hb=>by
   by_cases e:j=i
   ·
    simp[e] at hb
   ·
    simp only[e,if_false,Option.map_eq_some_iff] at hb
    obtain⟨b',h1,rfl⟩:=hb
    obtain⟨ob,h2,h3⟩:=h.blk j b' h1
    refine⟨ob,by simp[upd,e,h2],?_⟩
    cases b' with
    |cells cs =>
     obtain⟨b,cur,e',g1,g2,g3,g4,g5⟩:=h3
     refine⟨b,cur,e',g1,g2,by rw[qdg];simpa using g3,g4,fun k v hk=>?_⟩
     rw[qdg,qag (by rfl)]
     exact(g5 k v hk).kill i
    |row c xs=>exact h3
  inj:=fun j k b m m' h1 h2=>h.inj j k b m m' (hle h1) (hle h2)
  notim:=fun j b m h1=>h.notim j b m (hle h1)
  own:=fun j b m h1=>h.own j b m (hle h1)
  pin:=fun j x hlt h1=>h.pin j x hlt (hle h1)}
theorem qf3 (i c:Nat)(xs:List (ty c)):∀ (l:List AV),frzL i c xs l=l.map (frz i c xs)
 | []=>rfl
 |a::r=>by simp[frzL,qf3 i c xs r]
theorem Rep.frz {im im':Nat→Prop} {ρ:Ids} {v:Value} {x:AV} (h:Rep w im ρ v x) (i:Nat) {c:Nat} {xs:List (ty c)} {ob:Option Nat×Nat} (hB:BRep w im qai ob (.row c xs))
  (him:∀ b,im b→im' b) (hob:∀ b,ob.1=some b→im' b) (hi:∀ x,ρ i=some x→x=ob) {ρ':Ids} (hρ:∀ j x,j≠i→ρ j=some x→ρ' j=some x) :
  Rep w im' ρ' v (Eng.frz i c xs x):=by
 have st:∀ {v a},Rep w im qai v a→Rep w im' qai v a:=fun h=>h.stable (fun _ _=>rfl) him (fun _ _ h=>h) (fun _ _ _ _=>rfl)
 induction h generalizing ρ' with
 |int h=>exact .int h
 |bool=>exact .bool
 |str h=>exact .str h
 |nilptr=>exact .nilptr
 |nilsl=>exact .nilsl
 |nilfn=>exact .nilfn
 |sl0=>exact .sl0
 |emp=>exact .emp
 |sl hb hn hcap hm vals hcell hone hrep ih=>exact .sl (him _ hb) hn hcap hm vals hcell hone (fun i j x hx hj=>st (hrep i j x hx hj))
 |iref hb ho vals hcell hone hrep ih=>exact .iref (him _ hb) ho vals hcell hone (fun j hj=>st (hrep j hj))
 |row0 h =>
  unfold Eng.frz
  split
  ·
   split
   ·
    simp only[List.take_zero];exact .sl0
   ·
    exact .dead
  ·
   exact .row0 (hρ _ _ (fun e=>qbA ‹_› e.symm) h)
 | @rowE ρ c' j o b off cap m h ho hm =>
  unfold Eng.frz
  split
  ·
   rename_i hij
   have hij:=nbeq hij
   subst hij
   split
   ·
    rename_i hc
    have hc:=nbeq hc
    subst hc
    have hob':=hi _ h
    subst hob'
    simp only[List.take_zero]
    exact .sl (hob _ rfl) rfl (Nat.zero_le _) hm (fun _ _=>undef) (fun i j hi hj=>absurd hi (by simp)) (fun i j hi hj=>absurd hi (by simp)) (fun i j x hx hj=>absurd hx (by simp))
   ·
    exact .dead
  ·
   exact .rowE (hρ _ _ (fun e=>qbA ‹_› e.symm) h) ho hm
 | @row ρ c' j b o n cap e off m x0 h hle ho hn hm hs =>
  unfold Eng.frz
  split
  ·
   rename_i hij
   have hij:=nbeq hij
   subst hij
   split
   ·
    rename_i hc
    have hc:=nbeq hc
    subst hc
    have hob':=hi _ h
    subst hob'
    obtain⟨hk,hB⟩:=hB
    dsimp only at hk hB
    rcases hB with ⟨h1,-⟩|⟨b',cur,e',cap',h1,hh,hsz,hcap,hm',hone,hrep⟩
    ·
     cases h1
    ·
     simp only[Option.some.injEq] at h1
     subst h1
     subst ho
     have hlen:((xs.drop o).take n).length=n:=by simp;omega
     have hlt:∀ i j,i<n→j<szOf c→(o+i)*szOf c+j<cur.size:=fun i j hi hj=>by
      rw[hsz]
      calc (o+i)*szOf c+j<(o+i)*szOf c+szOf c:=by omega
       _=(o+i+1)*szOf c:=by rw[Nat.add_mul _ 1,Nat.one_mul]
       _≤cap'*szOf c:=Nat.mul_le_mul_right _ (by omega)
     refine .sl (hob b rfl) hlen.symm hn hm (fun i j=>cur.getD ((o+i)*szOf c+j) undef) (fun i j hi hj=>?_) (fun i j hi hj=>?_) (fun i j x hx hj=>?_)
     ·
      rw[hlen] at hi
      rw[qbV w hh,← Nat.add_mul]
      exact qar (hlt i j hi hj)
     ·
      rw[hlen] at hi
      exact hone _ _ (qar (hlt i j hi hj))
     ·
      have h3:=qbO hx
      rw[hlen] at h3
      rw[List.getElem?_take,if_pos h3,List.getElem?_drop] at hx
      exact st (hrep _ j x _ hx hj (qar (hlt i j h3 hj)))
   ·
    exact .dead
  ·
   exact .row (hρ _ _ (fun e=>qbA ‹_› e.symm) h) hle ho hn hm hs
 |ptr h =>
  unfold Eng.frz
  split
  ·
   exact .dead
  ·
   exact .ptr (hρ _ _ (fun e=>qbA ‹_› e.symm) h)
 |eptr h ho =>
  unfold Eng.frz
  split
  ·
   exact .dead
  ·
   exact .eptr (hρ _ _ (fun e=>qbA ‹_› e.symm) h) ho
 |agg hl hone h ih =>
  unfold Eng.frz
  rw[qf3]
  exact .agg (by simpa using hl) hone fun j v hj=>by rw[qag (by rfl)];exact ih j v hj hi hρ
 |tup hl h ih =>
  unfold Eng.frz
  rw[qf3]
  exact .tup (by simpa using hl) fun j v hj=>by rw[qag (by rfl)];exact ih j v hj hi hρ
 |fn hl hl' h h' ih ih' =>
  unfold Eng.frz
  rw[qf3,qf3]
  exact .fn (by simpa using hl) (by simpa using hl') (fun j v hj=>by rw[qag (by rfl)];exact ih j v hj hi hρ) (fun j v hj=>by rw[qag (by rfl)];exact ih' j v hj hi hρ)
 |dead=>exact .dead
 |val=>exact .val
 |both h h'=>exact .both (st h) (st h')
 |wsl hn hm h0 h=>exact(st (.wsl hn hm h0 h)).any
 |wref hb hn hx hc hf=>exact(st (.wref hb hn hx hc hf)).any
 |anyb h=>exact .anyb h
theorem qgl (nb i:Nat)(xs:List UInt8):∀ (l:List AV),qhQ nb i xs l=l.map (frzY nb i xs)
 | []=>rfl
 |a::r=>by simp[qhQ,qgl nb i xs r]
theorem Rep.frzY {im im':Nat→Prop} {ρ:Ids} {v:Value} {x:AV} (h:Rep w im ρ v x) (nb i:Nat) {xs:List UInt8} {ob:Option Nat×Nat} (hB:BRep w im qai ob (.row 0 xs)) (hnb:∀ b,ob.1=some b→nb≤b)
  (him:∀ b,im b→im' b) (hob:∀ b,ob.1=some b→im' b) (hi:∀ x,ρ i=some x→x=ob) {ρ':Ids} (hρ:∀ j x,j≠i→ρ j=some x→ρ' j=some x) :
  Rep w im' ρ' v (Eng.frzY nb i xs x):=by
 have st:∀ {v a},Rep w im qai v a→Rep w im' qai v a:=fun h=>h.stable (fun _ _=>rfl) him (fun _ _ h=>h) (fun _ _ _ _=>rfl)
 induction h generalizing ρ' with
 |int h=>exact .int h
 |bool=>exact .bool
 |str h=>exact .str h
 |nilptr=>exact .nilptr
 |nilsl=>exact .nilsl
 |nilfn=>exact .nilfn
 |sl0=>exact .sl0
 |emp=>exact .emp
 |sl hb hn hcap hm vals hcell hone hrep ih=>exact .sl (him _ hb) hn hcap hm vals hcell hone (fun i j x hx hj=>st (hrep i j x hx hj))
 |iref hb ho vals hcell hone hrep ih=>exact .iref (him _ hb) ho vals hcell hone (fun j hj=>st (hrep j hj))
 |row0 h =>
  unfold Eng.frzY
  split
  ·
   split
   ·
    simp only[List.take_zero];exact .both .sl0 (.wsl (Nat.le_refl _) (by decide) (fun _=>rfl) (fun i hi=>absurd hi (by simp)))
   ·
    exact .dead
  ·
   exact .row0 (hρ _ _ (fun e=>qbA ‹_› e.symm) h)
 | @rowE ρ c' j o b off cap m h ho hm =>
  unfold Eng.frzY
  split
  ·
   rename_i hij
   have hij:=nbeq hij
   subst hij
   split
   ·
    rename_i hc
    have hc:=nbeq hc
    subst hc
    have hob':=hi _ h
    subst hob'
    simp only[List.take_zero]
    exact .both (.sl (hob _ rfl) rfl (Nat.zero_le _) hm (fun _ _=>undef) (fun i j hi hj=>absurd hi (by simp)) (fun i j hi hj=>absurd hi (by simp)) (fun i j x hx hj=>absurd hx (by simp)))
     (.wsl (Nat.zero_le _) hm (fun _=>rfl) (fun i hi=>absurd hi (by simp)))
   ·
    exact .dead
  ·
   exact .rowE (hρ _ _ (fun e=>qbA ‹_› e.symm) h) ho hm
 | @row ρ c' j b o n cap e off m x0 h hle ho hn hm hs =>
  unfold Eng.frzY
  split
  ·
   rename_i hij
   have hij:=nbeq hij
   subst hij
   split
   ·
    rename_i hc
    have hc:=nbeq hc
    subst hc
    have hob':=hi _ h
    subst hob'
    obtain⟨hk,hB⟩:=hB
    dsimp only at hk hB
    rcases hB with ⟨h1,-⟩|⟨b',cur,e',cap',h1,hh,hsz,hcap,hm',hone,hrep⟩
    ·
     cases h1
    ·
     simp only[Option.some.injEq] at h1
     subst h1
     subst ho
     have hlen:((xs.drop o).take n).length=n:=by simp;omega
     have hlt:∀ i j,i<n→j<szOf 0→(o+i)*szOf 0+j<cur.size:=fun i j hi hj=>by
      rw[hsz]
      calc (o+i)*szOf 0+j<(o+i)*szOf 0+szOf 0:=by omega
       _=(o+i+1)*szOf 0:=by rw[Nat.add_mul _ 1,Nat.one_mul]
       _≤cap'*szOf 0:=Nat.mul_le_mul_right _ (by omega)
     refine .both (.sl (ρ:=qai) (hob b rfl) hlen.symm hn hm (fun i j=>cur.getD ((o+i)*szOf 0+j) undef) (fun i j hi hj=>?_) (fun i j hi hj=>?_) (fun i j x hx hj=>?_)) (.wsl hn hm (fun e=>by cases e) (fun i hi=>?_))
     ·
      rw[hlen] at hi
      rw[qbV w hh,← Nat.add_mul]
      exact qar (hlt i j hi hj)
     ·
      rw[hlen] at hi
      exact hone _ _ (qar (hlt i j hi hj))
     ·
      have h3:=qbO hx
      rw[hlen] at h3
      rw[List.getElem?_take,if_pos h3,List.getElem?_drop] at hx
      exact st (hrep _ j x _ hx hj (qar (hlt i j h3 hj)))
     ·
      have h3:i<(List.take n (List.drop o xs)).length:=by rw[hlen];exact hi
      have h4:(List.take n (List.drop o xs))[i]? = some (List.take n (List.drop o xs))[i]:=List.getElem?_eq_getElem h3
      have h5:xs[o+i]? = some (List.take n (List.drop o xs))[i]:=by
       rw[← h4,List.getElem?_take,if_pos hi,List.getElem?_drop]
      have h6:=hlt i 0 hi (by decide)
      have h7:=hrep (o+i) 0 _ _ h5 (by decide) (qar h6)
      obtain⟨h8,h9⟩:=h7.inv_int
      refine⟨b,_,_,rfl,hob b rfl,hnb b rfl,h9,?_,?_⟩
      ·
       have e1:o*szOf 0+i=(o+i)*szOf 0+0:=by simp[szOf]
       rw[qbV w hh,e1,← h8]
       exact qar h6
      ·
       simp only[World.frozen?,hh]
       simp
   ·
    exact .dead
  ·
   exact .row (hρ _ _ (fun e=>qbA ‹_› e.symm) h) hle ho hn hm hs
 |ptr h =>
  unfold Eng.frzY
  split
  ·
   exact .dead
  ·
   exact .ptr (hρ _ _ (fun e=>qbA ‹_› e.symm) h)
 |eptr h ho =>
  unfold Eng.frzY
  split
  ·
   exact .dead
  ·
   exact .eptr (hρ _ _ (fun e=>qbA ‹_› e.symm) h) ho
 |agg hl hone h ih =>
  unfold Eng.frzY
  rw[qgl]
  exact .agg (by simpa using hl) hone fun j v hj=>by rw[qag (by rfl)];exact ih j v hj hi hρ
 |tup hl h ih =>
  unfold Eng.frzY
  rw[qgl]
  exact .tup (by simpa using hl) fun j v hj=>by rw[qag (by rfl)];exact ih j v hj hi hρ
 |fn hl hl' h h' ih ih' =>
  unfold Eng.frzY
  rw[qgl,qgl]
  exact .fn (by simpa using hl) (by simpa using hl') (fun j v hj=>by rw[qag (by rfl)];exact ih j v hj hi hρ) (fun j v hj=>by rw[qag (by rfl)];exact ih' j v hj hi hρ)
 |dead=>exact .dead
 |val=>exact .val
 |both h h'=>exact .both (st h) (st h')
 |wsl hn hm h0 h=>exact(st (.wsl hn hm h0 h)).any
 |wref hb hn hx hc hf=>exact(st (.wref hb hn hx hc hf)).any
 |anyb h=>exact .anyb h
theorem BRep.closed {ob:Option Nat×Nat}{c:Nat}{xs:List (ty c)}(h:BRep w im ρ ob (.row c xs)):BRep w im qai ob (.row c xs):=h
theorem St.freezeF (h:St w0 bor im0 im ρ sl gs L a w) {i c:Nat} {xs:List (ty c)} {ob:Option Nat×Nat} (hL:L i=some (.row c xs)) (hi:ρ i=some ob) {φ:AV→AV} (hφ:φ .dead=.dead)
  (fz:∀ {v a},Rep w im ρ v a→Rep w (fun b=>im b∨ob.1=some b) (upd ρ i none) v (φ a)) :
  St w0 bor im0 (fun b=>im b∨ob.1=some b) (upd ρ i none) (sl.map φ) gs (fun j=>if j=i then none else (L j).map (Blk.map (List.map φ))) a w:=by
 obtain⟨ob',h1,hB⟩:=h.blk i _ hL
 rw[hi] at h1
 simp only[Option.some.injEq] at h1
 subst h1
 have hle:∀ {j x},upd ρ i none j=some x→ρ j=some x∧j≠i:=fun{j x} hj=>by
  unfold upd at hj
  split at hj
  ·
   cases hj
  ·
   exact⟨hj,‹_›⟩
 have hge:∀ j x,j≠i→ρ j=some x→upd ρ i none j=some x:=fun j x hne hj=>by unfold upd;rw[if_neg hne];exact hj
 exact{h with
  len:=by simpa using h.len
  slot:=fun j v hv=>by
   have hs:=h.slot j v hv
   unfold SRep at hs ⊢
   rw[qag hφ]
   split
   ·
    rename_i hg;rw[hg] at hs;exact fz hs
   ·
    rename_i tc wt hg
    rw[hg] at hs
    exact⟨fun e=>fz (hs.1 e),hs.2⟩
  dom:=fun j hj=>by
   unfold upd
   split
   ·
    rfl
   ·
    rename_i hne
    simp only[hne,if_false,Option.map_eq_none_iff] at hj
    exact h.dom j hj
  blk:=fun j b hb=>by
   by_cases e:j=i
   ·
    simp[e] at hb
   ·
    simp only[e,if_false,Option.map_eq_some_iff] at hb
    obtain⟨b',h1,rfl⟩:=hb
    obtain⟨ob2,h2,h3⟩:=h.blk j b' h1
    refine⟨ob2,hge j _ e h2,?_⟩
    cases b' with
    |cells cs =>
     obtain⟨b,cur,e',g1,g2,g3,g4,g5⟩:=h3
     refine⟨b,cur,e',g1,g2,by simpa using g3,g4,fun k v hk=>?_⟩
     rw[qag hφ]
     exact fz (g5 k v hk)
    |row c' ys=>exact h3.closed.stable (fun _ _=>rfl) (fun _ h=>.inl h) (fun j x hx=>by simp[qai] at hx) (fun _ _ _ _=>rfl) (fun _ _=>rfl)
  inj:=fun j k b m m' h1 h2=>h.inj j k b m m' (hle h1).1 (hle h2).1
  notim:=fun j b m h1=>by
   obtain⟨h2,h3⟩:=hle h1
   rintro(h4|h4)
   ·
    exact h.notim j b m h2 h4
   ·
    obtain⟨o1,o2⟩:=ob
    dsimp only at h4
    subst h4
    exact h3 (h.inj j i b _ _ h2 hi)
  imlt:=fun b hb=>by
   rcases hb with hb|hb
   ·
    exact h.imlt b hb
   ·
    exact hB.lt hb
  imold:=fun b hb=>.inl (h.imold b hb)
  imnew:=fun b hb=>by
   rcases hb with hb|hb
   ·
    exact h.imnew b hb
   ·
    obtain⟨o1,o2⟩:=ob
    dsimp only at hb
    subst hb
    exact .inr (h.own i b _ hi)
  own:=fun j b m h1=>h.own j b m (hle h1).1
  pin:=fun j x hlt h1=>h.pin j x hlt (hle h1).1}
theorem St.freeze (h:St w0 bor im0 im ρ sl gs L a w) {i c:Nat} {xs:List (ty c)} {ob:Option Nat×Nat} (hL:L i=some (.row c xs)) (hi:ρ i=some ob) :
  St w0 bor im0 (fun b=>im b∨ob.1=some b) (upd ρ i none) (frzL i c xs sl) gs (fun j=>if j=i then none else (L j).map (Blk.map (frzL i c xs))) a w:=by
 obtain⟨ob',h1,hB⟩:=h.blk i _ hL
 rw[hi] at h1
 simp only[Option.some.injEq] at h1
 subst h1
 have e:frzL i c xs=List.map (Eng.frz i c xs):=by funext l;exact qf3 i c xs l
 rw[e]
 exact h.freezeF hL hi rfl fun hr=>hr.frz i hB.closed (fun _ h=>.inl h) (fun _ h=>.inr h) (fun x hx=>by rw[hi] at hx;exact(Option.some.inj hx).symm) (fun j x hne hj=>by unfold upd;rw[if_neg hne];exact hj)
theorem St.freezeY (h:St w0 bor im0 im ρ sl gs L a w) {nb i:Nat} {xs:List UInt8} {ob:Option Nat×Nat} (hL:L i=some (.row 0 xs)) (hi:ρ i=some ob) (hnb:∀ b,ob.1=some b→nb≤b) :
  St w0 bor im0 (fun b=>im b∨ob.1=some b) (upd ρ i none) (qhQ nb i xs sl) gs (fun j=>if j=i then none else (L j).map (Blk.map (qhQ nb i xs))) a w:=by
 obtain⟨ob',h1,hB⟩:=h.blk i _ hL
 rw[hi] at h1
 simp only[Option.some.injEq] at h1
 subst h1
 have e:qhQ nb i xs=List.map (Eng.frzY nb i xs):=by funext l;exact qgl nb i xs l
 rw[e]
 exact h.freezeF hL hi rfl fun hr=>hr.frzY nb i hB.closed hnb (fun _ h=>.inl h) (fun _ h=>.inr h) (fun x hx=>by rw[hi] at hx;exact(Option.some.inj hx).symm) (fun j x hne hj=>by unfold upd;rw[if_neg hne];exact hj)
def Uniq (L:Locs):Prop:=(L.map (·.1)).Nodup
theorem qok {L:Locs}{i:Nat}(h:i ∉ L.map (·.1)):lget L i=none:=by
 induction L with
 |nil=>rfl
 |cons x r ih =>
  obtain⟨j,b⟩:=x
  simp only[List.map_cons,List.mem_cons,not_or] at h
  have:Nat.beq j i=false:=by
   cases h':Nat.beq j i with
   |false=>rfl
   |true=>exact absurd (nbeq h').symm h.1
  simp only[lget,this]
  exact ih h.2
theorem qcJ {L:Locs}(hu:Uniq L)(i j:Nat):lget (ldel L i) j=if j=i then none else lget L j:=by
 induction L with
 |nil=>simp[ldel,lget]
 |cons x r ih =>
  obtain⟨k,b⟩:=x
  unfold Uniq at hu ih
  simp only[List.map_cons,List.nodup_cons] at hu
  unfold ldel
  split
  ·
   rename_i hk
   have:=nbeq hk
   subst this
   by_cases hj:j=k
   ·
    subst hj;rw[if_pos rfl];exact qok hu.1
   ·
    rw[if_neg hj]
    have:Nat.beq k j=false:=by
     cases h':Nat.beq k j with
     |false=>rfl
     |true=>exact absurd (nbeq h').symm hj
    simp only[lget,this]
  ·
   rename_i hk
   simp only[lget]
   rw[ih hu.2]
   split
   ·
    rename_i hkj
    have:=nbeq hkj
    subst this
    rw[if_neg (qbA hk)]
   ·
    rfl
theorem qcK {L:Locs}{i:Nat}{b0:Blk}(h:lget L i=some b0)(b:Blk)(j:Nat):lget (lset L i b) j=upd (lget L) i (some b) j:=by
 unfold upd
 induction L with
 |nil=>cases h
 |cons x r ih =>
  obtain⟨k,b'⟩:=x
  unfold lset
  split
  ·
   rename_i hk
   have:=nbeq hk
   subst this
   simp only[lget]
   split
   ·
    rename_i hkj;rw[if_pos (nbeq hkj).symm]
   ·
    rename_i hkj;rw[if_neg (fun e=>qbA hkj e.symm)]
  ·
   rename_i hk
   simp only[lget,hk] at h
   simp only[lget]
   rw[ih h]
   split
   ·
    rename_i hkj
    have:=nbeq hkj
    subst this
    rw[if_neg (qbA hk)]
   ·
    rfl
theorem qbh (f:List AV→List AV)(L:Locs)(j:Nat):lget (lmap f L) j=(lget L j).map (Blk.map f):=by
 induction L with
 |nil=>rfl
 |cons x r ih =>
  obtain⟨k,b⟩:=x
  simp only[lmap,lget]
  split
  ·
   rfl
  ·
   exact ih
theorem q68 (f:List AV→List AV)(L:Locs):(lmap f L).map (·.1)=L.map (·.1):=by
 induction L with
 |nil=>rfl
 |cons x r ih=>obtain⟨k,b⟩:=x;simp[lmap,ih]
theorem qwW (L:Locs)(i:Nat)(b:Blk):(lset L i b).map (·.1)=L.map (·.1):=by
 induction L with
 |nil=>rfl
 |cons x r ih =>
  obtain⟨k,b'⟩:=x
  unfold lset
  split
  ·
   rfl
  ·
   simp[ih]
theorem quL (L:Locs)(i:Nat):List.Sublist ((ldel L i).map (·.1)) (L.map (·.1)):=by
 induction L with
 |nil=>exact List.Sublist.refl _
 |cons x r ih =>
  obtain⟨k,b'⟩:=x
  unfold ldel
  split
  ·
   exact List.sublist_cons_self _ _
  ·
   exact List.Sublist.cons_cons _ ih
theorem Uniq.lmap {L:Locs}(h:Uniq L)(f:List AV→List AV):Uniq (lmap f L):=by unfold Uniq;rw[q68];exact h
theorem Uniq.lset {L:Locs}(h:Uniq L)(i:Nat)(b:Blk):Uniq (lset L i b):=by unfold Uniq;rw[qwW];exact h
theorem Uniq.ldel {L:Locs}(h:Uniq L)(i:Nat):Uniq (ldel L i):=List.Sublist.nodup (quL L i) h
theorem qkA {L:Locs}{i:Nat}(h:lget L i=none):i ∉ L.map (·.1):=by
 induction L with
 |nil=>simp
 |cons x r ih =>
  obtain⟨k,b⟩:=x
  simp only[lget] at h
  split at h
  ·
   cases h
  ·
   rename_i hk
   simp only[List.map_cons,List.mem_cons,not_or]
   exact⟨fun e=>qbA hk e.symm,ih h⟩
theorem Uniq.cons {L:Locs}(h:Uniq L){i:Nat}(hi:lget L i=none)(b:Blk):Uniq ((i,b)::L):=by
 unfold Uniq
 simp only[List.map_cons,List.nodup_cons]
 exact⟨qkA hi,h⟩
theorem qdK (L:Locs)(i:Nat)(b:Blk):lget ((i,b)::L)=upd (lget L) i (some b):=by
 funext j
 unfold upd
 simp only[lget]
 split
 ·
  rename_i h;rw[if_pos (nbeq h).symm]
 ·
  rename_i h;rw[if_neg (fun e=>qbA h e.symm)]
end st
end Go.Eng
