import Derived.Test.YtcdppfnjidlknaaGreatDoorYam
set_option linter.unusedVariables false
set_option linter.unusedSimpArgs false
namespace Go.Eng
open Go
section
variable {w0 w : World} {bor : Bor} {im0 im : Nat → Prop} {ρ : Ids} {σ : AS} {a : Act}
theorem q6f (l m:List AV)(j:Nat):nth (l++m) j=if j<l.length then nth l j else nth m (j-l.length):=by
 rw[qao,List.getElem?_append]
 split
 ·
  rw[qao]
 ·
  rw[qao]
theorem qaB {ρ':Ids} {x y:AV} {s t:List AV} (h1:∀ u,Rep w im ρ u x→Rep w im ρ' u y) (h2:∀ (j:Nat) (u:Value),Rep w im ρ u (nth s j)→Rep w im ρ' u (nth t j)) :
  ∀ (j:Nat) (u:Value),Rep w im ρ u (nth (x::s) j)→Rep w im ρ' u (nth (y::t) j)
 |0,u,h=>h1 u h
 |j+1,u,h=>h2 j u h
theorem qbs {ks:List Nat}{i:Nat}{x:Option Nat×Nat}(hm:memN i ks=true)(h:ρ i=some x):qcf ks ρ i=some x:=by
 unfold qcf;rw[if_pos (qnk.1 hm)];exact h
theorem PA.get_ok {R:Type}{r:R}{len:Nat→Nat}{ks:List Nat}:∀ (l:PA) (s:List AV) (k:PA.V l→Option R),PA.get DOps.std len l s k=some r→PA.ids l ks=true →
  ∃ v,k v=some r∧(PA.put len l v).length=s.length∧∀ (j:Nat) (u:Value),Rep w im ρ u (nth s j)→Rep w im (qcf ks ρ) u (nth (PA.put len l v) j):=by
 intro l
 induction l generalizing R with
 |nil =>
  intro s k h hi
  unfold PA.get at h
  split at h
  ·
   exact⟨(),h,rfl,fun j u hr=>.dead⟩
  ·
   cases h
 |dead l ih =>
  intro s k h hi
  unfold PA.get at h
  split at h
  ·
   obtain⟨v,h1,h2,h3⟩:=ih _ _ h hi
   exact⟨v,h1,by simp[PA.put,h2],qaB (fun u _=>.dead) h3⟩
  ·
   cases h
 |nilsl l ih =>
  intro s k h hi
  unfold PA.get at h
  split at h
  ·
   obtain⟨v,h1,h2,h3⟩:=ih _ _ h hi
   exact⟨v,h1,by simp[PA.put,h2],qaB (fun u hr=>qbW hr rfl) h3⟩
  ·
   cases h
 |nilptr l ih =>
  intro s k h hi
  unfold PA.get at h
  split at h
  ·
   obtain⟨v,h1,h2,h3⟩:=ih _ _ h hi
   exact⟨v,h1,by simp[PA.put,h2],qaB (fun u hr=>qbW hr rfl) h3⟩
  ·
   cases h
 |nilfn l ih =>
  intro s k h hi
  unfold PA.get at h
  split at h
  ·
   obtain⟨v,h1,h2,h3⟩:=ih _ _ h hi
   exact⟨v,h1,by simp[PA.put,h2],qaB (fun u hr=>qbW hr rfl) h3⟩
  ·
   cases h
 |int κ l ih =>
  intro s k h hi
  unfold PA.get at h
  split at h
  ·
   split at h
   ·
    rename_i hk
    have:=qaI hk
    subst this
    obtain⟨v,h1,h2,h3⟩:=ih _ _ h hi
    exact⟨(_,v),h1,by simp[PA.put,h2],qaB (fun u hr=>qbW hr rfl) h3⟩
   ·
    cases h
  ·
   cases h
 |lit κ n l ih =>
  intro s k h hi
  unfold PA.get at h
  split at h
  ·
   split at h
   ·
    rename_i hk
    simp only[Bool.and_eq_true] at hk
    have:=qaI hk.1
    subst this
    have:=of_decide_eq_true hk.2
    subst this
    obtain⟨v,h1,h2,h3⟩:=ih _ _ h hi
    exact⟨v,h1,by simp[PA.put,h2],qaB (fun u hr=>qbW hr rfl) h3⟩
   ·
    cases h
  ·
   cases h
 |bool l ih =>
  intro s k h hi
  unfold PA.get at h
  split at h
  ·
   obtain⟨v,h1,h2,h3⟩:=ih _ _ h hi
   exact⟨(_,v),h1,by simp[PA.put,h2],qaB (fun u hr=>qbW hr rfl) h3⟩
  ·
   cases h
 |str l ih =>
  intro s k h hi
  unfold PA.get at h
  split at h
  ·
   obtain⟨v,h1,h2,h3⟩:=ih _ _ h hi
   exact⟨(_,v),h1,by simp[PA.put,h2],qaB (fun u hr=>qbW hr rfl) h3⟩
  ·
   cases h
 |sl c l ih =>
  intro s k h hi
  unfold PA.get at h
  split at h
  ·
   split at h
   ·
    rename_i hc _
    subst hc
    obtain⟨v,h1,h2,h3⟩:=ih _ _ h hi
    exact⟨(_,v),h1,by simp[PA.put,h2],qaB (fun u hr=>qbW hr rfl) h3⟩
   ·
    cases h
  ·
   obtain⟨v,h1,h2,h3⟩:=ih _ _ h hi
   exact⟨([],v),h1,by simp[PA.put,h2],qaB (fun u hr=>by rw[hr.inv_nilsl];exact .sl0) h3⟩
  ·
   cases h
 |seg c l ih =>
  intro s k h hi
  unfold PA.get at h
  split at h
  ·
   rename_i x hx
   obtain⟨v,h1,h2,h3⟩:=ih _ _ h hi
   obtain⟨h4,h5⟩:=qhC (w:=w) (im:=im) (ρ:=ρ) c _ _ hx
   rw[qcw,List.length_take] at h4
   have hel:=qbL c x
   refine⟨(x,v),h1,?_,fun j u hr=>?_⟩
   ·
    rw[qcx,List.length_drop] at h2
    show (enc c x++PA.put len l v).length=_
    rw[List.length_append,hel,h2];omega
   ·
    show Rep w im (qcf ks ρ) u (nth (enc c x++PA.put len l v) j)
    rw[q6f,hel]
    split
    ·
     rename_i hj
     exact(h5 j u hj (by rw[qne _ _ _ hj];exact hr)).any
    ·
     rename_i hj
     refine h3 _ u ?_
     rw[qnf,show szOf c+(j-szOf c)=j by omega];exact hr
  ·
   cases h
 |eptr c i o l ih =>
  intro s k h hi
  simp only[PA.ids,Bool.and_eq_true] at hi
  unfold PA.get at h
  split at h
  ·
   split at h
   ·
    rename_i hb
    simp only[Bool.and_eq_true] at hb
    have e1:=nbeq hb.1.1;have e2:=nbeq hb.1.2;have e3:=nbeq hb.2
    subst e1;subst e2;subst e3
    obtain⟨v,h1,h2,h3⟩:=ih _ _ h hi.2
    exact⟨(_,v),h1,by simp[PA.put,h2],qaB (fun u hr=>by cases hr with|eptr h4 h5=>exact .eptr (qbs hi.1 h4) h5) h3⟩
   ·
    cases h
  ·
   cases h
 |iref c o l ih =>
  intro s k h hi
  unfold PA.get at h
  split at h
  ·
   split at h
   ·
    rename_i _ _ hc hb _
    have e1:=nbeq hb
    subst e1;subst hc
    obtain⟨v,h1,h2,h3⟩:=ih _ _ h hi
    exact⟨(_,v),h1,by simp[PA.put,h2],qaB (fun u hr=>qbW hr rfl) h3⟩
   ·
    cases h
  ·
   cases h
 |agg l m ihl ihm =>
  intro s k h hi
  simp only[PA.ids,Bool.and_eq_true] at hi
  unfold PA.get at h
  split at h
  ·
   obtain⟨u,g1,g2,g3⟩:=ihl _ _ h hi.1
   obtain⟨v,h1,h2,h3⟩:=ihm _ _ g1 hi.2
   refine⟨(u,v),h1,by simp[PA.put,h2],qaB (fun x hr=>?_) h3⟩
   obtain⟨vs,rfl,q1,q2,q3⟩:=hr.inv_agg
   exact .agg (q1.trans g2.symm) q2 fun j v hj=>g3 j v (q3 j v hj)
  ·
   cases h
 |tup l m ihl ihm =>
  intro s k h hi
  simp only[PA.ids,Bool.and_eq_true] at hi
  unfold PA.get at h
  split at h
  ·
   obtain⟨u,g1,g2,g3⟩:=ihl _ _ h hi.1
   obtain⟨v,h1,h2,h3⟩:=ihm _ _ g1 hi.2
   refine⟨(u,v),h1,by simp[PA.put,h2],qaB (fun x hr=>?_) h3⟩
   obtain⟨vs,rfl,q1,q3⟩:=hr.inv_tup
   exact .tup (q1.trans g2.symm) fun j v hj=>g3 j v (q3 j v hj)
  ·
   cases h
 |fn f l1 l2 m ih1 ih2 ihm =>
  intro s k h hi
  simp only[PA.ids,Bool.and_eq_true] at hi
  unfold PA.get at h
  split at h
  ·
   split at h
   ·
    rename_i hb
    have e1:=nbeq hb
    subst e1
    obtain⟨u1,g1,g2,g3⟩:=ih1 _ _ h hi.1.1
    obtain⟨u2,p1,p2,p3⟩:=ih2 _ _ g1 hi.1.2
    obtain⟨v,h1,h2,h3⟩:=ihm _ _ p1 hi.2
    refine⟨((u1,u2),v),h1,by simp[PA.put,h2],qaB (fun x hr=>?_) h3⟩
    obtain⟨vs,us,rfl,q1,q2,q3,q4⟩:=hr.inv_fn
    exact .fn (q1.trans g2.symm) (q2.trans p2.symm) (fun j v hj=>g3 j v (q3 j v hj)) (fun j v hj=>p3 j v (q4 j v hj))
   ·
    cases h
  ·
   cases h
 |row c i l ih =>
  intro s k h hi
  simp only[PA.ids,Bool.and_eq_true] at hi
  unfold PA.get at h
  split at h
  ·
   split at h
   ·
    rename_i hb
    simp only[Bool.and_eq_true] at hb
    have e1:=nbeq hb.1.1;have e2:=nbeq hb.1.2;have e3:=nbeq hb.2
    subst e1;subst e2;subst e3
    ·
     obtain⟨hn,h⟩:=req_ok h
     have e4:=nbeq hn
     obtain⟨v,h1,h2,h3⟩:=ih _ _ h hi.2
     refine⟨v,h1,by simp[PA.put,h2],qaB (fun u hr=>?_) h3⟩
     rw[← e4]
     cases hr with
     |row0 g1=>exact .row0 (qbs hi.1 g1)
     |row g1 g2 g3 g4 g5 g6=>exact .row (qbs hi.1 g1) g2 g3 g4 g5 g6
     |rowE g1 g2 g3=>exact .rowE (qbs hi.1 g1) g2 g3
   ·
    cases h
  ·
   cases h
 |rown c i l ih =>
  intro s k h hi
  simp only[PA.ids,Bool.and_eq_true] at hi
  unfold PA.get at h
  split at h
  ·
   split at h
   ·
    rename_i hb
    simp only[Bool.and_eq_true] at hb
    have e1:=nbeq hb.1.1;have e2:=nbeq hb.1.2;have e3:=nbeq hb.2
    subst e1;subst e2;subst e3
    obtain⟨v,h1,h2,h3⟩:=ih _ _ h hi.2
    refine⟨(_,v),h1,by simp[PA.put,h2],qaB (fun u hr=>?_) h3⟩
    cases hr with
    |row0 g1=>exact .row0 (qbs hi.1 g1)
    |row g1 g2 g3 g4 g5 g6=>exact .row (qbs hi.1 g1) g2 g3 g4 g5 g6
    |rowE g1 g2 g3=>exact .rowE (qbs hi.1 g1) g2 g3
   ·
    cases h
  ·
   cases h
 |ptr i o l ih =>
  intro s k h hi
  simp only[PA.ids,Bool.and_eq_true] at hi
  unfold PA.get at h
  split at h
  ·
   split at h
   ·
    rename_i hb
    simp only[Bool.and_eq_true] at hb
    have e1:=nbeq hb.1;have e2:=nbeq hb.2
    subst e1;subst e2
    obtain⟨v,h1,h2,h3⟩:=ih _ _ h hi.2
    exact⟨v,h1,by simp[PA.put,h2],qaB (fun u hr=>by cases hr with|ptr h4=>exact .ptr (qbs hi.1 h4)) h3⟩
   ·
    cases h
  ·
   cases h
def q2I (L:Locs):(bl:List (Nat×PB))→VR bl→Prop
 | [],_=>True
 |(i,.row c)::r,v=>lget L i=some (.row c v.1)∧q2I L r v.2
 |(_,.cells _)::r,v=>q2I L r v
theorem qu1 {R:Type}{r:R}{L:Locs}:∀ (bl:List (Nat×PB)) {k:VR bl→Option R},getR L bl k=some r→∃ v,k v=some r∧q2I L bl v
 | [],k,h=>⟨(),h,trivial⟩
 |(i,.row c)::bl,k,h=>by
  unfold getR at h
  split at h
  ·
   rename_i c' xs hl
   split at h
   ·
    rename_i hc _
    subst hc
    obtain⟨v,h1,h2⟩:=qu1 bl h
    exact⟨(xs,v),h1,hl,h2⟩
   ·
    cases h
  ·
   cases h
 |(i,.cells l)::bl,k,h=>by
  unfold getR at h
  exact qu1 bl h
def qu2 (w:World)(im:Nat→Prop) (ρ ρ':Ids)(L:Locs)(len:Nat→Nat):(bl:List (Nat×PB))→VC bl→Prop
 | [],_=>True
 |(_,.row _)::r,v=>qu2 w im ρ ρ' L len r v
 |(i,.cells l)::r,v=>(∃ cs,lget L i=some (.cells cs)∧(PA.put len l v.1).length=cs.length∧∀ (j:Nat) (u:Value),Rep w im ρ u (nth cs j)→Rep w im ρ' u (nth (PA.put len l v.1) j))∧qu2 w im ρ ρ' L len r v.2
theorem qu3 {R:Type}{r:R}{L:Locs}{len:Nat→Nat}{ks:List Nat}:∀ (bl:List (Nat×PB)) {k:VC bl→Option R},getC DOps.std L len bl k=some r→PB.ids bl ks=true→∃ v,k v=some r∧qu2 w im ρ (qcf ks ρ) L len bl v
 | [],k,h,_=>⟨(),h,trivial⟩
 |(i,.row c)::bl,k,h,hi=>by
  unfold getC at h
  exact qu3 bl h hi
 |(i,.cells l)::bl,k,h,hi=>by
  simp only[PB.ids,Bool.and_eq_true] at hi
  unfold getC at h
  split at h
  ·
   rename_i cs hl
   obtain⟨u,h1,h2,h3⟩:=PA.get_ok (w:=w) (im:=im) (ρ:=ρ) _ _ _ h hi.1
   obtain⟨v,h4,h5⟩:=qu3 bl h1 hi.2
   exact⟨(u,v),h4,⟨cs,hl,h2,h3⟩,h5⟩
  ·
   cases h
theorem qnc {len:Nat→Nat}:∀ (bl:List (Nat×PB)) (vr:VR bl) (vc:VC bl),(qh6 len bl vr vc).map (·.1)=qrl bl
 | [],_,_=>rfl
 |(i,.row c)::bl,vr,vc=>by simp[qh6,qrl,qnc bl vr.2 vc]
 |(i,.cells l)::bl,vr,vc=>by simp[qh6,qrl,qnc bl vr vc.2]
def SubB (w:World)(im:Nat→Prop) (ρ ρ':Ids)(b' b:Blk):Prop :=
 (∃ c xs,b'=.row c xs∧b=.row c xs)∨(∃ cs ds,b'=.cells cs∧b=.cells ds∧ds.length=cs.length∧∀ (j:Nat) (u:Value),Rep w im ρ u (nth cs j)→Rep w im ρ' u (nth ds j))
theorem qnd {L:Locs}{len:Nat→Nat} {ρ':Ids}:∀ (bl:List (Nat×PB)) (vr:VR bl) (vc:VC bl),q2I L bl vr→qu2 w im ρ ρ' L len bl vc→∀ i b,lget (qh6 len bl vr vc) i=some b→∃ b',lget L i=some b'∧SubB w im ρ ρ' b' b
 | [],_,_,_,_,i,b,h=>by cases h
 |(j,.row c)::bl,vr,vc,hr,hc,i,b,h=>by
  unfold qh6 lget at h
  split at h
  ·
   rename_i e
   have e:=nbeq e;subst e
   cases h
   exact⟨_,hr.1,.inl ⟨c,vr.1,rfl,rfl⟩⟩
  ·
   exact qnd bl vr.2 vc hr.2 hc i b h
 |(j,.cells l)::bl,vr,vc,hr,hc,i,b,h=>by
  unfold qh6 lget at h
  split at h
  ·
   rename_i e
   have e:=nbeq e;subst e
   cases h
   obtain⟨cs,h1,h2,h3⟩:=hc.1
   exact⟨_,h1,.inr ⟨cs,_,rfl,rfl,h2,h3⟩⟩
  ·
   exact qnd bl vr vc.2 hr hc.2 i b h
theorem SA.sub {ρ:Ids} {σ τ:AS} (h:SA w0 bor im0 im ρ σ a w) (hg:noGs σ.gs=true) (htg:τ.gs=[]) (hl:τ.slots.length=σ.slots.length) (hnd:qcG (τ.locs.map (·.1))=true)
  (hs:∀ (j:Nat) (u:Value),Rep w im ρ u (nth σ.slots j)→Rep w im (qcf (τ.locs.map (·.1)) ρ) u (nth τ.slots j))
  (hb:∀ i b,lget τ.locs i=some b→∃ b',lget σ.locs i=some b'∧SubB w im ρ (qcf (τ.locs.map (·.1)) ρ) b' b):SA w0 bor im0 im (qcf (τ.locs.map (·.1)) ρ) τ a w:=by
 refine⟨{h.st with len:=by rw[h.st.len];exact hl.symm,slot:=fun i v hv=>?_,dom:=fun i hi=>?_,blk:=fun i b hb'=>?_,inj:=fun i j b m m' hi hj=>?_,notim:=fun i b m hi=>?_,own:=fun i b m hi=>?_,pin:=fun i x hlt hi=>h.st.pin i x hlt (qdi hi).1},?_⟩
 ·
  have:=h.st.slot i v hv
  unfold SRep at this ⊢
  rw[qf7 hg] at this
  rw[htg]
  exact hs i v this
 ·
  unfold qcf
  rw[if_neg (qkA hi)]
 ·
  obtain⟨b',hb1,hsub⟩:=hb i b hb'
  obtain⟨ob,h6,h7⟩:=h.st.blk i b' hb1
  have hm:i∈τ.locs.map (·.1):=by
   rcases Classical.em (i∈τ.locs.map (·.1)) with hm|hm
   ·
    exact hm
   ·
    rw[qok hm] at hb';cases hb'
  refine⟨ob,by unfold qcf;rw[if_pos hm];exact h6,?_⟩
  rcases hsub with ⟨c,xs,rfl,rfl⟩|⟨cs,ds,rfl,rfl,q1,q2⟩
  ·
   exact h7
  ·
   obtain⟨b,cur,e,g1,g2,g3,g4,g5⟩:=h7
   exact⟨b,cur,e,g1,g2,by omega,g4,fun j v hj=>q2 j v (g5 j v hj)⟩
 ·
  exact h.st.inj i j b m m' (qdi hi).1 (qdi hj).1
 ·
  exact h.st.notim i b m (qdi hi).1
 ·
  exact h.st.own i b m (qdi hi).1
 ·
  exact qiZ hnd
theorem qrS:∀ (l:List Nat) {σ:AS} {ρ:Ids} {im:Nat→Prop},SA w0 bor im0 im ρ σ a w→∃ im' ρ',SA w0 bor im0 im' ρ' (σ.freezeL l) a w
 | [],_,_,_,h=>⟨_,_,h⟩
 |i::l,_,_,_,h=>by
  obtain⟨im',ρ',h',-⟩:=h.freeze i
  exact qrS l h'
theorem qcA {R:Type} {r:R} {p:Pat} {k:p.V→Option R} {ρ:Ids} {σ:AS} (h0:SA w0 bor im0 im ρ σ a w) (hv:p.get DOps.std σ k=some r) :
  ∃ v im' ρ',k v=some r∧SA w0 bor im0 im' ρ' (p.st v) a w:=by
 obtain⟨im2,ρ2,hb2⟩:=qbJ p.boxes h0
 obtain⟨im1,ρ1,h⟩:∃ im1 ρ1,SA w0 bor im0 im1 ρ1 (match p.fz with|true=>(σ.box p.boxes).freezeL (qnY (σ.box p.boxes).locs)|false=>σ.box p.boxes) a w:=by
  cases p.fz with
  |true=>exact qrS _ hb2
  |false=>exact⟨_,_,hb2⟩
 unfold Pat.get at hv
 dsimp only at hv
 split at hv
 ·
  rename_i hg
  simp only[Bool.and_eq_true,Pat.ok] at hg
  obtain⟨hg,⟨hn,hi⟩,hb⟩:=hg
  obtain⟨vr,h1,h2⟩:=qu1 _ hv
  obtain⟨vc,h3,h4⟩:=qu3 (w:=w) (im:=im1) (ρ:=ρ1) _ h1 hb
  obtain⟨vs,h5,h6,h7⟩:=PA.get_ok (w:=w) (im:=im1) (ρ:=ρ1) _ _ _ h3 hi
  have hk:=qnc (len:=lenR p.blks vr) p.blks vr vc
  refine⟨(vr,vc,vs),im1,_,h5,h.sub (τ:=p.st (vr,vc,vs)) hg rfl h6 (by show qcG ((qh6 _ _ _ _).map (·.1))=true;rw[hk];exact hn) ?_ ?_⟩
  ·
   show ∀ (j:Nat) (u:Value),_→Rep w im1 (qcf ((qh6 _ _ _ _).map (·.1)) ρ1) u _
   rw[hk];exact h7
  ·
   show ∀ i b,_→∃ b',_∧SubB w im1 ρ1 (qcf ((qh6 _ _ _ _).map (·.1)) ρ1) b' b
   rw[hk]
   exact qnd _ vr vc h2 h4
 ·
  cases hv
theorem qcb {P:Program}{sp:FuncId→Option DSpec}(hΓ:Gam P (fun f=>(sp f).map DSpec.to) (0,none) w0 bor im0):∀ (c:Code) {env:DEnv} (hs:env.o=DOps.std) (hP:env.P=P) (hsp:env.spec=sp) {R:Type} {r:R} {σ:AS} {a:Act} {w:World} {im:Nat→Prop} {ρ:Ids} {K:Ex→AS→Option R} {Q:Exit→Act→World→Prop},SA w0 bor im0 im ρ σ a w→den env c σ K=some r→(∀ e σ' a' w' im' ρ',K e σ'=some r→SA w0 bor im0 im' ρ' σ' a' w'→Q (exOf e) a' w')→c.wp P Q a w:=by
 intro c
 induction c with
 |skip=>intro env hs hP hsp R r σ a w im ρ K Q h hv hn;exact wp_skip (hn .norm _ _ _ _ _ hv h)
 |region id ops draw =>
  intro env hs hP hsp R r σ a w im ρ K Q h hv hn
  subst hP;subst hsp
  unfold den at hv
  cases draw with
  |true =>
   dsimp only at hv
   split at hv
   ·
    rename_i hc
    simp only[Bool.and_eq_true] at hc
    obtain⟨K',hv,hK'⟩:∃ K':AS→Option R,anyD env ops (env.off+(id+1)*1000) ops.toList.length 0 σ K'=some r∧∀ σ' a' w' im' ρ',K' σ'=some r→SA w0 bor im0 im' ρ' σ' a' w'→Q .normal a' w':=by
     split at hv
     ·
      exact⟨_,hv,fun σ' a' w' im' ρ' hk h'=>hn .norm _ _ _ _ _ hk h'⟩
     ·
      rename_i p hp
      rw[hs] at hv
      refine⟨_,hv,fun σ' a' w' im' ρ' hk h'=>?_⟩
      obtain⟨v,im1,ρ1,h1,h2⟩:=qcA h' hk
      exact hn .norm _ _ _ _ _ h1 h2
    refine q0C (lf:=qb9 env.to) (R:=fun a w=>∃ σ' im' ρ',K' σ'=some r∧SA w0 bor im0 im' ρ' σ' a w) hc.2 (fun a w ⟨σ',im',ρ',hk,h'⟩=>hK' _ _ _ _ _ hk h') ?_
    rw[← arr_zero,← Array.length_toList]
    have hd:SA w0 bor im0 im ρ σ a {w with drawn:=w.drawn+1}:=⟨h.st.drew,h.uniq⟩
    have:=qhW (env:=env.to) (Q:=fun e a w=>match e with|.normal=>(∃ σ' im' ρ',K' σ'=some r∧SA w0 bor im0 im' ρ' σ' a w)|_=>False) hΓ hc.1 (fun _ _ _ h=>h) _ 0 hd (q0l hs (k':=fun σ'=>K' σ'=some r) (fun _ h=>h) hv) (fun σ' a' w' im' ρ' hk h'=>⟨σ',im',ρ',hk,h'⟩)
    rw[← Array.length_toList] at this
    exact this
   ·
    cases hv
  |false=>exact wp_region_list (qox (env:=env.to) hΓ _ _ h (q6d hs (k':=fun σ'=>K .norm σ'=some r) (fun _ h=>h) hv) fun σ' a' w' im' ρ' hk h'=>hn .norm _ _ _ _ _ hk h')
 |seq x y ihx ihy =>
  intro env hs hP hsp R r σ a w im ρ K Q h hv hn
  unfold den at hv
  refine wp_seq ?_
  split at hv
  ·
   refine ihx hs hP hsp h hv fun e σ' a' w' im' ρ' hk h'=>?_
   cases e with
   |norm=>exact ihy hs hP hsp h' hk hn
   |exit i=>exact hn (.exit i) _ _ _ _ _ hk h'
   |ret=>exact hn .ret _ _ _ _ _ hk h'
  ·
   rename_i p hp
   rw[hs] at hv
   have hv:den env x σ (fun e σ'=>match e with|.norm=>p.get DOps.std σ' (fun v=>den env y (p.st v) K)|e=>K e σ')=some r:=hv
   refine ihx hs hP hsp h hv fun e σ' a' w' im' ρ' hk h'=>?_
   cases e with
   |norm =>
    obtain⟨v,im1,ρ1,h1,h2⟩:=qcA h' hk
    exact ihy hs hP hsp h2 h1 hn
   |exit i=>exact hn (.exit i) _ _ _ _ _ hk h'
   |ret=>exact hn .ret _ _ _ _ _ hk h'
 |cond c x y ihx ihy =>
  intro env hs hP hsp R r σ a w im ρ K Q h hv hn
  unfold den at hv
  split at hv
  ·
   rename_i b hb
   have hr:=h.ev (g:=none) (fun _ _ e=>by cases e) c
   rw[hb] at hr
   refine wp_cond hr.inv_bool ?_
   cases b with
   |true=>exact ihx hs hP hsp h hv hn
   |false=>exact ihy hs hP hsp h hv hn
  ·
   cases hv
 |block id c ih =>
  intro env hs hP hsp R r σ a w im ρ K Q h hv hn
  unfold den at hv
  refine wp_block (ih hs hP hsp h hv fun e σ' a' w' im' ρ' hk h'=>?_)
  cases e with
  |norm=>exact hn .norm _ _ _ _ _ hk h'
  |ret=>exact hn .ret _ _ _ _ _ hk h'
  |exit i =>
   dsimp only at hk
   show (if i=id then Q .normal a' w' else Q (.exit i) a' w')
   split at hk
   ·
    rename_i e
    rw[if_pos (nbeq e)]
    exact hn .norm _ _ _ _ _ hk h'
   ·
    rename_i e
    rw[if_neg (qbA e)]
    exact hn (.exit i) _ _ _ _ _ hk h'
 |loop c ih =>
  intro env hs hP hsp R r σ a w im ρ K Q h hv hn
  unfold den at hv
  split at hv
  ·
   refine qiV (fun n a w=>∃ σ im ρ,SA w0 bor im0 im ρ σ a w∧(Nat.rec (motive:=fun _=>AS→Option R) (fun _=>none) (fun n ih σ=>den (env.rnd n) c σ fun e σ'=>match e with
    |.norm=>ih σ'
    |e=>K e σ') n σ)=some r) id 4 ⟨σ,im,ρ,h,hv⟩ ?_
   rintro n a w ⟨σ,im,ρ,h,hv⟩
   cases n with
   |zero=>cases hv
   |succ n =>
    refine ih (env:=env.rnd n) hs hP hsp h hv fun e σ' a' w' im' ρ' hk h'=>?_
    cases e with
    |norm=>exact⟨n,⟨σ',im',ρ',h',hk⟩,Nat.lt_succ_self n⟩
    |exit i=>exact hn (.exit i) _ _ _ _ _ hk h'
    |ret=>exact hn .ret _ _ _ _ _ hk h'
  ·
   rename_i p hp
   rw[hs] at hv
   obtain⟨v0,im1,ρ1,h1,h2⟩:=qcA h hv
   let F:(p.V→Option R)→p.V→Option R:=fun rec v=>den env c (p.st v) fun e σ'=>match e with
    |.norm=>p.get DOps.std σ' rec
    |e=>K e σ'
   refine qiV (V:=Nat×p.V) (fun nv a w=>fixN F nv.1 nv.2=some r∧∃ im ρ,SA w0 bor im0 im ρ (p.st nv.2) a w) (·.1) (NN,v0) ⟨h1,im1,ρ1,h2⟩ ?_
   rintro⟨n,v⟩ a w ⟨hf,im,ρ,h⟩
   cases n with
   |zero=>cases hf
   |succ n =>
    have hf:F (fixN F n) v=some r:=hf
    refine ih hs hP hsp h hf fun e σ' a' w' im' ρ' hk h'=>?_
    cases e with
    |norm =>
     obtain⟨v',im2,ρ2,h3,h4⟩:=qcA h' hk
     exact⟨(n,v'),⟨h3,im2,ρ2,h4⟩,Nat.lt_succ_self n⟩
    |exit i=>exact hn (.exit i) _ _ _ _ _ hk h'
    |ret=>exact hn .ret _ _ _ _ _ hk h'
 |scope c ih =>
  intro env hs hP hsp R r σ a w im ρ K Q h hv hn
  unfold den at hv
  refine wp_scope_straight (ih hs hP hsp h hv fun e σ' a' w' im' ρ' hk h'=>?_)
  have:=hn e σ' a' w' im' ρ' hk h'
  cases e<;>exact this
 |label l=>intro env hs hP hsp R r σ a w im ρ K Q h hv hn;exact wp_label (hn .norm _ _ _ _ _ hv h)
 |exit id=>intro env hs hP hsp R r σ a w im ρ K Q h hv hn;exact wp_exit (hn (.exit id) _ _ _ _ _ hv h)
 |ret=>intro env hs hP hsp R r σ a w im ρ K Q h hv hn;exact wp_ret (hn .ret _ _ _ _ _ hv h)
 |_=>intro env hs hP hsp R r σ a w im ρ K Q h hv hn;cases hv
end
end Go.Eng
