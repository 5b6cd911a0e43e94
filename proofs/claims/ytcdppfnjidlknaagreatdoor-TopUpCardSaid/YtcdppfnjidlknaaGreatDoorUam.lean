import Derived.Test.YtcdppfnjidlknaaGreatDoorUal
namespace Go.Eng
open Go
set_option linter.unusedVariables false
set_option linter.unusedSimpArgs false
section
variable {w0 w : World} {bor : Bor} {im0 im : Nat → Prop} {ρ : Ids} {σ : AS} {a : Act}
theorem q4Z (l m:List AV) (j:Nat):nth (l++m) j=if j<l.length then nth l j else nth m (j - l.length):=by
 rw[qam,List.getElem?_append]
 split
 ·
  rw[qam]
 ·
  rw[qam]
theorem qa3 {ρ':Ids} {x y:AV} {s t:List AV} (h1:∀ u,Rep w im ρ u x→Rep w im ρ' u y) (h2:∀ (j:Nat) (u:Value),Rep w im ρ u (nth s j)→Rep w im ρ' u (nth t j)) :
  ∀ (j:Nat) (u:Value),Rep w im ρ u (nth (x::s) j)→Rep w im ρ' u (nth (y::t) j)
 | 0,u,h=>h1 u h
 | j+1,u,h=>h2 j u h
theorem qbj {ks:List Nat} {i:Nat} {x:Option Nat×Nat} (hm:memN i ks=true) (h:ρ i=some x):qbT ks ρ i=some x:=by
 unfold qbT; rw[if_pos (qm7.1 hm)]; exact h
theorem PA.get_ok {R:Type} {r:R} {len:Nat→Nat} {ks:List Nat}:∀ (l:PA) (s:List AV) (k:PA.V l→Option R),PA.get DOps.std len l s k=some r→PA.ids l ks=true →
  ∃ v,k v=some r∧(PA.put len l v).length=s.length∧∀ (j:Nat) (u:Value),Rep w im ρ u (nth s j)→Rep w im (qbT ks ρ) u (nth (PA.put len l v) j):=by
 intro l
 induction l generalizing R with
 | nil =>
  intro s k h hi
  unfold PA.get at h
  split at h
  ·
   exact⟨(),h,rfl,fun j u hr=>.dead⟩
  ·
   cases h
 | dead l ih =>
  intro s k h hi
  unfold PA.get at h
  split at h
  ·
   obtain⟨v,h1,h2,h3⟩:=ih _ _ h hi
   exact⟨v,h1,by simp[PA.put,h2],qa3 (fun u _=>.dead) h3⟩
  ·
   cases h
 | nilsl l ih =>
  intro s k h hi
  unfold PA.get at h
  split at h
  ·
   obtain⟨v,h1,h2,h3⟩:=ih _ _ h hi
   exact⟨v,h1,by simp[PA.put,h2],qa3 (fun u hr=>qbK hr rfl) h3⟩
  ·
   cases h
 | nilptr l ih =>
  intro s k h hi
  unfold PA.get at h
  split at h
  ·
   obtain⟨v,h1,h2,h3⟩:=ih _ _ h hi
   exact⟨v,h1,by simp[PA.put,h2],qa3 (fun u hr=>qbK hr rfl) h3⟩
  ·
   cases h
 | nilfn l ih =>
  intro s k h hi
  unfold PA.get at h
  split at h
  ·
   obtain⟨v,h1,h2,h3⟩:=ih _ _ h hi
   exact⟨v,h1,by simp[PA.put,h2],qa3 (fun u hr=>qbK hr rfl) h3⟩
  ·
   cases h
 | int κ l ih =>
  intro s k h hi
  unfold PA.get at h
  split at h
  ·
   split at h
   ·
    rename_i hk
    have:=qaA hk
    subst this
    obtain⟨v,h1,h2,h3⟩:=ih _ _ h hi
    exact⟨(_,v),h1,by simp[PA.put,h2],qa3 (fun u hr=>qbK hr rfl) h3⟩
   ·
    cases h
  ·
   cases h
 | lit κ n l ih =>
  intro s k h hi
  unfold PA.get at h
  split at h
  ·
   split at h
   ·
    rename_i hk
    simp only[Bool.and_eq_true] at hk
    have:=qaA hk.1
    subst this
    have:=of_decide_eq_true hk.2
    subst this
    obtain⟨v,h1,h2,h3⟩:=ih _ _ h hi
    exact⟨v,h1,by simp[PA.put,h2],qa3 (fun u hr=>qbK hr rfl) h3⟩
   ·
    cases h
  ·
   cases h
 | bool l ih =>
  intro s k h hi
  unfold PA.get at h
  split at h
  ·
   obtain⟨v,h1,h2,h3⟩:=ih _ _ h hi
   exact⟨(_,v),h1,by simp[PA.put,h2],qa3 (fun u hr=>qbK hr rfl) h3⟩
  ·
   cases h
 | str l ih =>
  intro s k h hi
  unfold PA.get at h
  split at h
  ·
   obtain⟨v,h1,h2,h3⟩:=ih _ _ h hi
   exact⟨(_,v),h1,by simp[PA.put,h2],qa3 (fun u hr=>qbK hr rfl) h3⟩
  ·
   cases h
 | sl c l ih =>
  intro s k h hi
  unfold PA.get at h
  split at h
  ·
   split at h
   ·
    rename_i hc _
    subst hc
    obtain⟨v,h1,h2,h3⟩:=ih _ _ h hi
    exact⟨(_,v),h1,by simp[PA.put,h2],qa3 (fun u hr=>qbK hr rfl) h3⟩
   ·
    cases h
  ·
   obtain⟨v,h1,h2,h3⟩:=ih _ _ h hi
   exact⟨([],v),h1,by simp[PA.put,h2],qa3 (fun u hr=>by rw[hr.inv_nilsl]; exact .sl0) h3⟩
  ·
   cases h
 | seg c l ih =>
  intro s k h hi
  unfold PA.get at h
  split at h
  ·
   rename_i x hx
   obtain⟨v,h1,h2,h3⟩:=ih _ _ h hi
   obtain⟨h4,h5⟩:=qhf (w:=w) (im:=im) (ρ:=ρ) c _ _ hx
   rw[qch,List.length_take] at h4
   have hel:=qb9 c x
   refine⟨(x,v),h1,?_,fun j u hr=>?_⟩
   ·
    rw[qci,List.length_drop] at h2
    show (enc c x++PA.put len l v).length=_
    rw[List.length_append,hel,h2]; omega
   ·
    show Rep w im (qbT ks ρ) u (nth (enc c x++PA.put len l v) j)
    rw[q4Z,hel]
    split
    ·
     rename_i hj
     exact(h5 j u hj (by rw[qm1 _ _ _ hj]; exact hr)).any
    ·
     rename_i hj
     refine h3 _ u ?_
     rw[qm2,show szOf c+(j - szOf c)=j by omega]; exact hr
  ·
   cases h
 | eptr c i o l ih =>
  intro s k h hi
  simp only[PA.ids,Bool.and_eq_true] at hi
  unfold PA.get at h
  split at h
  ·
   split at h
   ·
    rename_i hb
    simp only[Bool.and_eq_true] at hb
    have e1:=nbeq hb.1.1; have e2:=nbeq hb.1.2; have e3:=nbeq hb.2
    subst e1; subst e2; subst e3
    obtain⟨v,h1,h2,h3⟩:=ih _ _ h hi.2
    exact⟨(_,v),h1,by simp[PA.put,h2],qa3 (fun u hr=>by cases hr with | eptr h4 h5=>exact .eptr (qbj hi.1 h4) h5) h3⟩
   ·
    cases h
  ·
   cases h
 | iref c o l ih =>
  intro s k h hi
  unfold PA.get at h
  split at h
  ·
   split at h
   ·
    rename_i _ _ hc hb _
    have e1:=nbeq hb
    subst e1; subst hc
    obtain⟨v,h1,h2,h3⟩:=ih _ _ h hi
    exact⟨(_,v),h1,by simp[PA.put,h2],qa3 (fun u hr=>qbK hr rfl) h3⟩
   ·
    cases h
  ·
   cases h
 | agg l m ihl ihm =>
  intro s k h hi
  simp only[PA.ids,Bool.and_eq_true] at hi
  unfold PA.get at h
  split at h
  ·
   obtain⟨u,g1,g2,g3⟩:=ihl _ _ h hi.1
   obtain⟨v,h1,h2,h3⟩:=ihm _ _ g1 hi.2
   refine⟨(u,v),h1,by simp[PA.put,h2],qa3 (fun x hr=>?_) h3⟩
   obtain⟨vs,rfl,q1,q2,q3⟩:=hr.inv_agg
   exact .agg (q1.trans g2.symm) q2 fun j v hj=>g3 j v (q3 j v hj)
  ·
   cases h
 | tup l m ihl ihm =>
  intro s k h hi
  simp only[PA.ids,Bool.and_eq_true] at hi
  unfold PA.get at h
  split at h
  ·
   obtain⟨u,g1,g2,g3⟩:=ihl _ _ h hi.1
   obtain⟨v,h1,h2,h3⟩:=ihm _ _ g1 hi.2
   refine⟨(u,v),h1,by simp[PA.put,h2],qa3 (fun x hr=>?_) h3⟩
   obtain⟨vs,rfl,q1,q3⟩:=hr.inv_tup
   exact .tup (q1.trans g2.symm) fun j v hj=>g3 j v (q3 j v hj)
  ·
   cases h
 | fn f l1 l2 m ih1 ih2 ihm =>
  intro s k h hi
  simp only[PA.ids,Bool.and_eq_true] at hi
  unfold PA.get at h
  split at h
  ·
   split at h
   ·
    rename_i hb
    have e1:=nbeq hb
    subst e1
    obtain⟨u1,g1,g2,g3⟩:=ih1 _ _ h hi.1.1
    obtain⟨u2,p1,p2,p3⟩:=ih2 _ _ g1 hi.1.2
    obtain⟨v,h1,h2,h3⟩:=ihm _ _ p1 hi.2
    refine⟨((u1,u2),v),h1,by simp[PA.put,h2],qa3 (fun x hr=>?_) h3⟩
    obtain⟨vs,us,rfl,q1,q2,q3,q4⟩:=hr.inv_fn
    exact .fn (q1.trans g2.symm) (q2.trans p2.symm) (fun j v hj=>g3 j v (q3 j v hj)) (fun j v hj=>p3 j v (q4 j v hj))
   ·
    cases h
  ·
   cases h
 | row c i l ih =>
  intro s k h hi
  simp only[PA.ids,Bool.and_eq_true] at hi
  unfold PA.get at h
  split at h
  ·
   split at h
   ·
    rename_i hb
    simp only[Bool.and_eq_true] at hb
    have e1:=nbeq hb.1.1; have e2:=nbeq hb.1.2; have e3:=nbeq hb.2
    subst e1; subst e2; subst e3
    ·
     obtain⟨hn,h⟩:=req_ok h
     have e4:=nbeq hn
     obtain⟨v,h1,h2,h3⟩:=ih _ _ h hi.2
     refine⟨v,h1,by simp[PA.put,h2],qa3 (fun u hr=>?_) h3⟩
     rw[← e4]
     cases hr with
     | row0 g1=>exact .row0 (qbj hi.1 g1)
     | row g1 g2 g3 g4 g5 g6=>exact .row (qbj hi.1 g1) g2 g3 g4 g5 g6
     | rowE g1 g2 g3=>exact .rowE (qbj hi.1 g1) g2 g3
   ·
    cases h
  ·
   cases h
 | rown c i l ih =>
  intro s k h hi
  simp only[PA.ids,Bool.and_eq_true] at hi
  unfold PA.get at h
  split at h
  ·
   split at h
   ·
    rename_i hb
    simp only[Bool.and_eq_true] at hb
    have e1:=nbeq hb.1.1; have e2:=nbeq hb.1.2; have e3:=nbeq hb.2
    subst e1; subst e2; subst e3
    obtain⟨v,h1,h2,h3⟩:=ih _ _ h hi.2
    refine⟨(_,v),h1,by simp[PA.put,h2],qa3 (fun u hr=>?_) h3⟩
    cases hr with
    | row0 g1=>exact .row0 (qbj hi.1 g1)
    | row g1 g2 g3 g4 g5 g6=>exact .row (qbj hi.1 g1) g2 g3 g4 g5 g6
    | rowE g1 g2 g3=>exact .rowE (qbj hi.1 g1) g2 g3
   ·
    cases h
  ·
   cases h
 | ptr i o l ih =>
  intro s k h hi
  simp only[PA.ids,Bool.and_eq_true] at hi
  unfold PA.get at h
  split at h
  ·
   split at h
   ·
    rename_i hb
    simp only[Bool.and_eq_true] at hb
    have e1:=nbeq hb.1; have e2:=nbeq hb.2
    subst e1; subst e2
    obtain⟨v,h1,h2,h3⟩:=ih _ _ h hi.2
    exact⟨v,h1,by simp[PA.put,h2],qa3 (fun u hr=>by cases hr with | ptr h4=>exact .ptr (qbj hi.1 h4)) h3⟩
   ·
    cases h
  ·
   cases h
def q1E (L:Locs):(bl:List (Nat×PB))→VR bl→Prop
 | [],_=>True
 | (i,.row c)::r,v=>lget L i=some (.row c v.1)∧q1E L r v.2
 | (_,.cells _)::r,v=>q1E L r v
theorem qt6 {R:Type} {r:R} {L:Locs}:∀ (bl:List (Nat×PB)) {k:VR bl→Option R},getR L bl k=some r→∃ v,k v=some r∧q1E L bl v
 | [],k,h=>⟨(),h,trivial⟩
 | (i,.row c)::bl,k,h=>by
  unfold getR at h
  split at h
  ·
   rename_i c' xs hl
   split at h
   ·
    rename_i hc _
    subst hc
    obtain⟨v,h1,h2⟩:=qt6 bl h
    exact⟨(xs,v),h1,hl,h2⟩
   ·
    cases h
  ·
   cases h
 | (i,.cells l)::bl,k,h=>by
  unfold getR at h
  exact qt6 bl h
def qt7 (w:World) (im:Nat→Prop) (ρ ρ':Ids) (L:Locs) (len:Nat→Nat):(bl:List (Nat×PB))→VC bl→Prop
 | [],_=>True
 | (_,.row _)::r,v=>qt7 w im ρ ρ' L len r v
 | (i,.cells l)::r,v=>(∃ cs,lget L i=some (.cells cs)∧(PA.put len l v.1).length=cs.length∧∀ (j:Nat) (u:Value),Rep w im ρ u (nth cs j)→Rep w im ρ' u (nth (PA.put len l v.1) j))∧qt7 w im ρ ρ' L len r v.2
theorem qt8 {R:Type} {r:R} {L:Locs} {len:Nat→Nat} {ks:List Nat}:∀ (bl:List (Nat×PB)) {k:VC bl→Option R},getC DOps.std L len bl k=some r→PB.ids bl ks=true→∃ v,k v=some r∧qt7 w im ρ (qbT ks ρ) L len bl v
 | [],k,h,_=>⟨(),h,trivial⟩
 | (i,.row c)::bl,k,h,hi=>by
  unfold getC at h
  exact qt8 bl h hi
 | (i,.cells l)::bl,k,h,hi=>by
  simp only[PB.ids,Bool.and_eq_true] at hi
  unfold getC at h
  split at h
  ·
   rename_i cs hl
   obtain⟨u,h1,h2,h3⟩:=PA.get_ok (w:=w) (im:=im) (ρ:=ρ) _ _ _ h hi.1
   obtain⟨v,h4,h5⟩:=qt8 bl h1 hi.2
   exact⟨(u,v),h4,⟨cs,hl,h2,h3⟩,h5⟩
  ·
   cases h
theorem qmz {len:Nat→Nat}:∀ (bl:List (Nat×PB)) (vr:VR bl) (vc:VC bl),(qgZ len bl vr vc).map (·.1)=qqz bl
 | [],_,_=>rfl
 | (i,.row c)::bl,vr,vc=>by simp[qgZ,qqz,qmz bl vr.2 vc]
 | (i,.cells l)::bl,vr,vc=>by simp[qgZ,qqz,qmz bl vr vc.2]
def SubB (w:World) (im:Nat→Prop) (ρ ρ':Ids) (b' b:Blk):Prop :=
 (∃ c xs,b'=.row c xs∧b=.row c xs)∨(∃ cs ds,b'=.cells cs∧b=.cells ds∧ds.length=cs.length∧∀ (j:Nat) (u:Value),Rep w im ρ u (nth cs j)→Rep w im ρ' u (nth ds j))
theorem qm0 {L:Locs} {len:Nat→Nat} {ρ':Ids}:∀ (bl:List (Nat×PB)) (vr:VR bl) (vc:VC bl),q1E L bl vr→qt7 w im ρ ρ' L len bl vc→∀ i b,lget (qgZ len bl vr vc) i=some b→∃ b',lget L i=some b'∧SubB w im ρ ρ' b' b
 | [],_,_,_,_,i,b,h=>by cases h
 | (j,.row c)::bl,vr,vc,hr,hc,i,b,h=>by
  unfold qgZ lget at h
  split at h
  ·
   rename_i e
   have e:=nbeq e; subst e
   cases h
   exact⟨_,hr.1,.inl ⟨c,vr.1,rfl,rfl⟩⟩
  ·
   exact qm0 bl vr.2 vc hr.2 hc i b h
 | (j,.cells l)::bl,vr,vc,hr,hc,i,b,h=>by
  unfold qgZ lget at h
  split at h
  ·
   rename_i e
   have e:=nbeq e; subst e
   cases h
   obtain⟨cs,h1,h2,h3⟩:=hc.1
   exact⟨_,h1,.inr ⟨cs,_,rfl,rfl,h2,h3⟩⟩
  ·
   exact qm0 bl vr vc.2 hr hc.2 i b h
theorem SA.sub {ρ:Ids} {σ τ:AS} (h:SA w0 bor im0 im ρ σ a w) (hg:noGs σ.gs=true) (htg:τ.gs=[]) (hl:τ.slots.length=σ.slots.length) (hnd:qc1 (τ.locs.map (·.1))=true)
  (hs:∀ (j:Nat) (u:Value),Rep w im ρ u (nth σ.slots j)→Rep w im (qbT (τ.locs.map (·.1)) ρ) u (nth τ.slots j))
  (hb:∀ i b,lget τ.locs i=some b→∃ b',lget σ.locs i=some b'∧SubB w im ρ (qbT (τ.locs.map (·.1)) ρ) b' b):SA w0 bor im0 im (qbT (τ.locs.map (·.1)) ρ) τ a w:=by
 refine⟨{h.st with len:=by rw[h.st.len]; exact hl.symm,slot:=fun i v hv=>?_,dom:=fun i hi=>?_,blk:=fun i b hb'=>?_,inj:=fun i j b m m' hi hj=>?_,notim:=fun i b m hi=>?_,own:=fun i b m hi=>?_,pin:=fun i x hlt hi=>h.st.pin i x hlt (qcP hi).1},?_⟩
 ·
  have:=h.st.slot i v hv
  unfold SRep at this ⊢
  rw[qfj hg] at this
  rw[htg]
  exact hs i v this
 ·
  unfold qbT
  rw[if_neg (qjZ hi)]
 ·
  obtain⟨b',hb1,hsub⟩:=hb i b hb'
  obtain⟨ob,h6,h7⟩:=h.st.blk i b' hb1
  have hm:i∈τ.locs.map (·.1):=by
   rcases Classical.em (i∈τ.locs.map (·.1)) with hm | hm
   ·
    exact hm
   ·
    rw[qn2 hm] at hb'; cases hb'
  refine⟨ob,by unfold qbT; rw[if_pos hm]; exact h6,?_⟩
  rcases hsub with ⟨c,xs,rfl,rfl⟩ | ⟨cs,ds,rfl,rfl,q1,q2⟩
  ·
   exact h7
  ·
   obtain⟨b,cur,e,g1,g2,g3,g4,g5⟩:=h7
   exact⟨b,cur,e,g1,g2,by omega,g4,fun j v hj=>q2 j v (g5 j v hj)⟩
 ·
  exact h.st.inj i j b m m' (qcP hi).1 (qcP hj).1
 ·
  exact h.st.notim i b m (qcP hi).1
 ·
  exact h.st.own i b m (qcP hi).1
 ·
  exact qi1 hnd
theorem qrd:∀ (l:List Nat) {σ:AS} {ρ:Ids} {im:Nat→Prop},SA w0 bor im0 im ρ σ a w→∃ im' ρ',SA w0 bor im0 im' ρ' (σ.freezeL l) a w
 | [],_,_,_,h=>⟨_,_,h⟩
 | i::l,_,_,_,h=>by
  obtain⟨im',ρ',h',-⟩:=h.freeze i
  exact qrd l h'
theorem qcv {R:Type} {r:R} {p:Pat} {k:p.V→Option R} {ρ:Ids} {σ:AS} (h0:SA w0 bor im0 im ρ σ a w) (hv:p.get DOps.std σ k=some r) :
  ∃ v im' ρ',k v=some r∧SA w0 bor im0 im' ρ' (p.st v) a w:=by
 obtain⟨im2,ρ2,hb2⟩:=qb8 p.boxes h0
 obtain⟨im1,ρ1,h⟩:∃ im1 ρ1,SA w0 bor im0 im1 ρ1 (match p.fz with | true=>(σ.box p.boxes).freezeL (qnq (σ.box p.boxes).locs) | false=>σ.box p.boxes) a w:=by
  cases p.fz with
  | true=>exact qrd _ hb2
  | false=>exact⟨_,_,hb2⟩
 unfold Pat.get at hv
 dsimp only at hv
 split at hv
 ·
  rename_i hg
  simp only[Bool.and_eq_true,Pat.ok] at hg
  obtain⟨hg,⟨hn,hi⟩,hb⟩:=hg
  obtain⟨vr,h1,h2⟩:=qt6 _ hv
  obtain⟨vc,h3,h4⟩:=qt8 (w:=w) (im:=im1) (ρ:=ρ1) _ h1 hb
  obtain⟨vs,h5,h6,h7⟩:=PA.get_ok (w:=w) (im:=im1) (ρ:=ρ1) _ _ _ h3 hi
  have hk:=qmz (len:=lenR p.blks vr) p.blks vr vc
  refine⟨(vr,vc,vs),im1,_,h5,h.sub (τ:=p.st (vr,vc,vs)) hg rfl h6 (by show qc1 ((qgZ _ _ _ _).map (·.1))=true; rw[hk]; exact hn) ?_ ?_⟩
  ·
   show ∀ (j:Nat) (u:Value),_→Rep w im1 (qbT ((qgZ _ _ _ _).map (·.1)) ρ1) u _
   rw[hk]; exact h7
  ·
   show ∀ i b,_→∃ b',_∧SubB w im1 ρ1 (qbT ((qgZ _ _ _ _).map (·.1)) ρ1) b' b
   rw[hk]
   exact qm0 _ vr vc h2 h4
 ·
  cases hv
theorem qbP {P:Program} {sp:FuncId→Option DSpec} (hΓ:Gam P (fun f=>(sp f).map DSpec.to) (0,none) w0 bor im0):∀ (c:Code) {env:DEnv} (hs:env.o=DOps.std) (hP:env.P=P) (hsp:env.spec=sp) {R:Type} {r:R} {σ:AS} {a:Act} {w:World} {im:Nat→Prop} {ρ:Ids} {K:Ex→AS→Option R} {Q:Exit→Act→World→Prop},
  SA w0 bor im0 im ρ σ a w→den env c σ K=some r→(∀ e σ' a' w' im' ρ',K e σ'=some r→SA w0 bor im0 im' ρ' σ' a' w'→Q (exOf e) a' w')→c.wp P Q a w:=by
 intro c
 induction c with
 | skip=>intro env hs hP hsp R r σ a w im ρ K Q h hv hn; exact wp_skip (hn .norm _ _ _ _ _ hv h)
 | region id ops draw =>
  intro env hs hP hsp R r σ a w im ρ K Q h hv hn
  subst hP; subst hsp
  unfold den at hv
  cases draw with
  | true =>
   dsimp only at hv
   split at hv
   ·
    rename_i hc
    simp only[Bool.and_eq_true] at hc
    obtain⟨K',hv,hK'⟩:∃ K':AS→Option R,anyD env ops (env.off+(id+1)*1000) ops.toList.length 0 σ K'=some r∧∀ σ' a' w' im' ρ',K' σ'=some r→SA w0 bor im0 im' ρ' σ' a' w'→Q .normal a' w':=by
     split at hv
     ·
      exact⟨_,hv,fun σ' a' w' im' ρ' hk h'=>hn .norm _ _ _ _ _ hk h'⟩
     ·
      rename_i p hp
      rw[hs] at hv
      refine⟨_,hv,fun σ' a' w' im' ρ' hk h'=>?_⟩
      obtain⟨v,im1,ρ1,h1,h2⟩:=qcv h' hk
      exact hn .norm _ _ _ _ _ h1 h2
    refine qzA (lf:=qby env.to) (R:=fun a w=>∃ σ' im' ρ',K' σ'=some r∧SA w0 bor im0 im' ρ' σ' a w) hc.2 (fun a w ⟨σ',im',ρ',hk,h'⟩=>hK' _ _ _ _ _ hk h') ?_
    rw[← arr_zero,← Array.length_toList]
    have hd:SA w0 bor im0 im ρ σ a {w with drawn:=w.drawn+1}:=⟨h.st.drew,h.uniq⟩
    have:=qhz (env:=env.to) (Q:=fun e a w=>match e with | .normal=>(∃ σ' im' ρ',K' σ'=some r∧SA w0 bor im0 im' ρ' σ' a w) | _=>False) hΓ hc.1 (fun _ _ _ h=>h) _ 0 hd (qzj hs (k':=fun σ'=>K' σ'=some r) (fun _ h=>h) hv) (fun σ' a' w' im' ρ' hk h'=>⟨σ',im',ρ',hk,h'⟩)
    rw[← Array.length_toList] at this
    exact this
   ·
    cases hv
  | false=>exact wp_region_list (qnF (env:=env.to) hΓ _ _ h (q4X hs (k':=fun σ'=>K .norm σ'=some r) (fun _ h=>h) hv) fun σ' a' w' im' ρ' hk h'=>hn .norm _ _ _ _ _ hk h')
 | seq x y ihx ihy =>
  intro env hs hP hsp R r σ a w im ρ K Q h hv hn
  unfold den at hv
  refine wp_seq ?_
  split at hv
  ·
   refine ihx hs hP hsp h hv fun e σ' a' w' im' ρ' hk h'=>?_
   cases e with
   | norm=>exact ihy hs hP hsp h' hk hn
   | exit i=>exact hn (.exit i) _ _ _ _ _ hk h'
   | ret=>exact hn .ret _ _ _ _ _ hk h'
  ·
   rename_i p hp
   rw[hs] at hv
   have hv:den env x σ (fun e σ'=>match e with | .norm=>p.get DOps.std σ' (fun v=>den env y (p.st v) K) | e=>K e σ')=some r:=hv
   refine ihx hs hP hsp h hv fun e σ' a' w' im' ρ' hk h'=>?_
   cases e with
   | norm =>
    obtain⟨v,im1,ρ1,h1,h2⟩:=qcv h' hk
    exact ihy hs hP hsp h2 h1 hn
   | exit i=>exact hn (.exit i) _ _ _ _ _ hk h'
   | ret=>exact hn .ret _ _ _ _ _ hk h'
 | cond c x y ihx ihy =>
  intro env hs hP hsp R r σ a w im ρ K Q h hv hn
  unfold den at hv
  split at hv
  ·
   rename_i b hb
   have hr:=h.ev (g:=none) (fun _ _ e=>by cases e) c
   rw[hb] at hr
   refine wp_cond hr.inv_bool ?_
   cases b with
   | true=>exact ihx hs hP hsp h hv hn
   | false=>exact ihy hs hP hsp h hv hn
  ·
   cases hv
 | block id c ih =>
  intro env hs hP hsp R r σ a w im ρ K Q h hv hn
  unfold den at hv
  refine wp_block (ih hs hP hsp h hv fun e σ' a' w' im' ρ' hk h'=>?_)
  cases e with
  | norm=>exact hn .norm _ _ _ _ _ hk h'
  | ret=>exact hn .ret _ _ _ _ _ hk h'
  | exit i =>
   dsimp only at hk
   show (if i=id then Q .normal a' w' else Q (.exit i) a' w')
   split at hk
   ·
    rename_i e
    rw[if_pos (nbeq e)]
    exact hn .norm _ _ _ _ _ hk h'
   ·
    rename_i e
    rw[if_neg (qbz e)]
    exact hn (.exit i) _ _ _ _ _ hk h'
 | loop c ih =>
  intro env hs hP hsp R r σ a w im ρ K Q h hv hn
  unfold den at hv
  split at hv
  ·
   refine qix (fun n a w=>∃ σ im ρ,SA w0 bor im0 im ρ σ a w∧(Nat.rec (motive:=fun _=>AS→Option R) (fun _=>none) (fun n ih σ=>den (env.rnd n) c σ fun e σ'=>match e with
    | .norm=>ih σ'
    | e=>K e σ') n σ)=some r) id 4 ⟨σ,im,ρ,h,hv⟩ ?_
   rintro n a w ⟨σ,im,ρ,h,hv⟩
   cases n with
   | zero=>cases hv
   | succ n =>
    refine ih (env:=env.rnd n) hs hP hsp h hv fun e σ' a' w' im' ρ' hk h'=>?_
    cases e with
    | norm=>exact⟨n,⟨σ',im',ρ',h',hk⟩,Nat.lt_succ_self n⟩
    | exit i=>exact hn (.exit i) _ _ _ _ _ hk h'
    | ret=>exact hn .ret _ _ _ _ _ hk h'
  ·
   rename_i p hp
   rw[hs] at hv
   obtain⟨v0,im1,ρ1,h1,h2⟩:=qcv h hv
   let F:(p.V→Option R)→p.V→Option R:=fun rec v=>den env c (p.st v) fun e σ'=>match e with
    | .norm=>p.get DOps.std σ' rec
    | e=>K e σ'
   refine qix (V:=Nat×p.V) (fun nv a w=>fixN F nv.1 nv.2=some r∧∃ im ρ,SA w0 bor im0 im ρ (p.st nv.2) a w) (·.1) (NN,v0) ⟨h1,im1,ρ1,h2⟩ ?_
   rintro⟨n,v⟩ a w ⟨hf,im,ρ,h⟩
   cases n with
   | zero=>cases hf
   | succ n =>
    have hf:F (fixN F n) v=some r:=hf
    refine ih hs hP hsp h hf fun e σ' a' w' im' ρ' hk h'=>?_
    cases e with
    | norm =>
     obtain⟨v',im2,ρ2,h3,h4⟩:=qcv h' hk
     exact⟨(n,v'),⟨h3,im2,ρ2,h4⟩,Nat.lt_succ_self n⟩
    | exit i=>exact hn (.exit i) _ _ _ _ _ hk h'
    | ret=>exact hn .ret _ _ _ _ _ hk h'
 | scope c ih =>
  intro env hs hP hsp R r σ a w im ρ K Q h hv hn
  unfold den at hv
  refine wp_scope_straight (ih hs hP hsp h hv fun e σ' a' w' im' ρ' hk h'=>?_)
  have:=hn e σ' a' w' im' ρ' hk h'
  cases e <;> exact this
 | label l=>intro env hs hP hsp R r σ a w im ρ K Q h hv hn; exact wp_label (hn .norm _ _ _ _ _ hv h)
 | exit id=>intro env hs hP hsp R r σ a w im ρ K Q h hv hn; exact wp_exit (hn (.exit id) _ _ _ _ _ hv h)
 | ret=>intro env hs hP hsp R r σ a w im ρ K Q h hv hn; exact wp_ret (hn .ret _ _ _ _ _ hv h)
 | _=>intro env hs hP hsp R r σ a w im ρ K Q h hv hn; cases hv
end
end Go.Eng
namespace Go.Eng
open Go
set_option linter.unusedVariables false
set_option linter.unusedSimpArgs false
noncomputable section
structure DFn where
 ro:Bool
 own:List Bool:=[]
 lend:Nat→Bool:=fun _=>true
 args:PA
 B:List PB:=[]
 out:Pat
 T:Type:=out.V
 to:out.V→T:=by exact id
 of:T→out.V:=by exact id
 iso:∀ t,of (to t)=t:=by intro t; rfl
def lentP (own:List Bool):Nat→List PB→List (Nat×PB)
 | _,[]=>[]
 | j,b::r=>(nm own j,b)::lentP own (j+1) r
abbrev DFn.inB (d:DFn):List (Nat×PB):=lentP d.own 0 d.B
abbrev DFn.In (d:DFn):Type:=VR d.inB×VC d.inB×PA.V d.args
def DFn.start (d:DFn) (fn:Func) (v:d.In):AS:=⟨pad (PA.put (lenR d.inB v.1) d.args v.2.2) fn.ntmps,[],qgZ (lenR d.inB v.1) d.inB v.1 v.2.1⟩
def DFn.getIn {R:Type} (o:DOps) (d:DFn) (args:List AV) (B:List Blk) (k:d.In→Option R):Option R :=
 match qc1 (qqz d.inB)&&PA.ids d.args (qqz d.inB)&&PB.ids d.inB (qqz d.inB) with
 | true=>getR (qca d.own 0 B) d.inB fun vr=>getC o (qca d.own 0 B) (lenR d.inB vr) d.inB fun vc=>PA.get o (lenR d.inB vr) d.args args fun vs=>k (vr,vc,vs)
 | false=>none
def DFn.body (env:DEnv) (d:DFn) (fn:Func) (v:d.In):Option d.T:=match fn.body with
 | none=>none
 | some c=>den env c (d.start fn v) fun e σ=>match e with
  | .norm | .ret=>d.out.get env.o σ fun t=>some (d.to t)
  | _=>none
def qzk {R:Type} (P:Program) (ro:Bool) (σ:AS) (rs:List ResultVar) (k:KO R):Option R :=
 match qvT P σ rs,noGs σ.gs with
 | some r,true=>match qeY σ.locs 1000 (ids r []) [] with
  | l=>match qri σ.locs l l with
   | some F=>match qc1 l&&qcL l r&&(!ro||(qq4 r&&qhu F)) with
    | true=>k (ren (fun i=>idx l i 0) r) [] F
    | false=>none
   | none=>none
 | _,_=>none
def qt9 {R:Type} (P:Program) (own:List Bool) (nB:Nat) (σ:AS) (rs:List ResultVar) (k:KO R):Option R :=
 match qvT P σ rs,noGs σ.gs with
 | some r,true=>match qeY σ.locs 1000 (pins own 0 nB++ids r []) [] with
  | l=>match bigs l with
   | lf=>match qtF σ.locs l (gnum nB lf) lf,qzr σ.locs l (gnum nB lf) own 0 nB with
    | some F,some bs=>match qc1 l&&qcL l r with
     | true=>k (ren (gnum nB lf) r) bs F
     | false=>none
    | _,_=>none
 | _,_=>none
def finD {R:Type} (P:Program) (ro:Bool) (own:List Bool) (rs:List ResultVar) (nB:Nat) (σ:AS) (k:KO R):Option R:=match own with
 | []=>qzk P ro σ rs k
 | o::os=>qt9 P (o::os) nB σ rs k
def DFn.spec (P:Program) (d:DFn) (fn:Func) (f:d.In→Option d.T):DSpec:=⟨d.ro,d.own,d.lend,fun o R args B k=>match Nat.ble args.length fn.ntmps with
 | true=>d.getIn o args B fun v=>o.bind (f v) fun t=>finD P d.ro d.own fn.results.toList B.length (d.out.st (d.of t)) k
 | false=>none⟩
theorem qco {α β:Type} {o:Option α} {k:α→Option β} {r:β} (h:qt2 o k=some r):∃ x,o=some x∧k x=some r:=by
 unfold qt2 at h
 split at h
 ·
  exact⟨_,rfl,h⟩
 ·
  cases h
theorem qjR {R:Type} {r:R} {P:Program} {ro:Bool} {σ:AS} {rs:List ResultVar} {k:KO R} {k':AV→List (Option Blk)→List Blk→Prop} (hk:∀ x bs F,k x bs F=some r→k' x bs F) (h:qzk P ro σ rs k=some r) :
  q1N P ro σ rs k':=by
 unfold qzk at h
 unfold q1N
 split at h
 ·
  rename_i x h1 h2
  rw[h1,h2]
  dsimp only at h ⊢
  split at h
  ·
   rename_i F h3
   rw[h3]
   dsimp only
   split at h
   ·
    rename_i h4
    rw[h4]; exact hk _ _ _ h
   ·
    cases h
  ·
   cases h
 ·
  cases h
theorem qnt {R:Type} {r:R} {P:Program} {own:List Bool} {nB:Nat} {σ:AS} {rs:List ResultVar} {k:KO R} {k':AV→List (Option Blk)→List Blk→Prop} (hk:∀ x bs F,k x bs F=some r→k' x bs F) (h:qt9 P own nB σ rs k=some r) :
  qtI P own nB σ rs k':=by
 unfold qt9 at h
 unfold qtI
 split at h
 ·
  rename_i x h1 h2
  rw[h1,h2]
  dsimp only at h ⊢
  split at h
  ·
   rename_i F bs h3 h4
   rw[h3,h4]
   dsimp only
   split at h
   ·
    rename_i h5
    rw[h5]; exact hk _ _ _ h
   ·
    cases h
  ·
   cases h
 ·
  cases h
section
variable {w0 w : World} {bor : Bor} {im0 im : Nat → Prop} {ρ : Ids} {σ : AS} {a : Act}
theorem nth_pad (l:List AV) (n j:Nat):nth (pad l n) j=if j<l.length then nth l j else if j<n then .tup [] else .dead:=by
 unfold pad
 rw[q4Z]
 split
 ·
  rfl
 ·
  rw[qam,List.getElem?_replicate]
  by_cases hj:j<n
  ·
   rw[if_pos (by omega),if_pos hj]; rfl
  ·
   rw[if_neg (by omega),if_neg hj]; rfl
theorem qtA {R:Type} {r:R} {d:DFn} {fn:Func} {args:List AV} {B:List Blk} {k:d.In→Option R} (h:SA w0 bor im0 im ρ ⟨pad args fn.ntmps,[],qca d.own 0 B⟩ a w) (hv:d.getIn DOps.std args B k=some r) :
  ∃ v ρ',k v=some r∧SA w0 bor im0 im ρ' (d.start fn v) a w:=by
 unfold DFn.getIn at hv
 split at hv
 ·
  rename_i hg
  simp only[Bool.and_eq_true] at hg
  obtain⟨⟨hn,hi⟩,hb⟩:=hg
  obtain⟨vr,h1,h2⟩:=qt6 _ hv
  obtain⟨vc,h3,h4⟩:=qt8 (w:=w) (im:=im) (ρ:=ρ) _ h1 hb
  obtain⟨vs,h5,h6,h7⟩:=PA.get_ok (w:=w) (im:=im) (ρ:=ρ) _ _ _ h3 hi
  have hk:=qmz (len:=lenR d.inB vr) d.inB vr vc
  refine⟨(vr,vc,vs),_,h5,h.sub (τ:=d.start fn (vr,vc,vs)) rfl rfl ?_ (by show qc1 ((qgZ _ _ _ _).map (·.1))=true; rw[hk]; exact hn) ?_ ?_⟩
  ·
   show (pad (PA.put _ _ _) _).length=(pad _ _).length
   unfold pad
   rw[List.length_append,List.length_append,h6]
  ·
   show ∀ (j:Nat) (u:Value),_→Rep w im (qbT ((qgZ _ _ _ _).map (·.1)) ρ) u (nth (pad (PA.put _ _ _) _) j)
   rw[hk]
   intro j u hr
   dsimp only at hr
   rw[nth_pad] at hr ⊢
   rw[h6]
   split
   ·
    rename_i hj
    rw[if_pos hj] at hr
    exact h7 j u hr
   ·
    rename_i hj
    rw[if_neg hj] at hr
    split
    ·
     rename_i hj2
     rw[if_pos hj2] at hr
     exact qbK hr rfl
    ·
     exact .dead
  ·
   show ∀ i b,_→∃ b',_∧SubB w im ρ (qbT ((qgZ _ _ _ _).map (·.1)) ρ) b' b
   rw[hk]
   exact qm0 _ vr vc h2 h4
 ·
  cases hv
end
theorem qvL {w:World} {im:Nat→Prop} {ρ0:Ids} {own:List Bool} {B:List Blk} {fn:Func} {args:List AV} {vals:Array Value} (him:∀ b,im b→b<w.heap.size) (hnB:B.length≤100) (hL:Lent w im ρ0 (qca own 0 B)) (hlen:vals.size=args.length)
  (hrep:∀ (j:Nat) (v:Value),vals[j]? = some v→Rep w im ρ0 v (nth args j)) (hle:args.length≤fn.ntmps) :
  SA w (borOf ρ0) im im ρ0 ⟨pad args fn.ntmps,[],qca own 0 B⟩ {tmps:=vals++Array.replicate (fn.ntmps - vals.size) undef,defers:=[]} w:=by
 have hpad:(pad args fn.ntmps).length=fn.ntmps:=by simp[pad]; omega
 have hlt:∀ i b m,ρ0 i=some (some b,m)→b<w.heap.size:=fun i b m hi=>by
  cases hl:lget (qca own 0 B) i with
  | none=>rw[hL.dom i hl] at hi; cases hi
  | some x =>
   obtain⟨ob,h1,h2⟩:=hL.blk i x hl
   rw[hi] at h1
   simp only[Option.some.injEq] at h1
   subst h1
   exact h2.lt rfl
 refine⟨St.mk rfl (by simp[hpad]; omega) (fun i v hi=>?_) hL.dom hL.blk hL.inj hL.notim him (fun _ h=>h) (fun _ h=>.inl h) (fun i b m hi=>.inr ⟨i,m,hi⟩) (fun i x _ hi=>hi) (fun _ _=>rfl) (fun b hb=>by obtain⟨i,m,hi⟩:=hb; exact hlt i b m hi) rfl rfl rfl (Nat.le_refl _) (fun _ _ _=>rfl),qrt _ _ _ (by omega)⟩
 show Rep w im ρ0 v (nth (pad args fn.ntmps) i)
 dsimp only at hi
 rw[Array.getElem?_append] at hi
 unfold pad
 rw[qam]
 split at hi
 ·
  rename_i h1
  rw[List.getElem?_append_left (by omega),← qam]
  exact hrep i v hi
 ·
  rename_i h1
  rw[List.getElem?_append_right (by omega)]
  rw[Array.getElem?_replicate] at hi
  split at hi
  ·
   rename_i h2
   simp only[Option.some.injEq] at hi; subst hi
   rw[List.getElem?_replicate,if_pos (by omega)]
   exact qaO
  ·
   cases hi
structure DH (P:Program) (f:Nat) (s:DSpec):Prop where
 out:qaW P f s.to
abbrev DT:=List (FuncId×DSpec)
def q5a:DT→FuncId→Option DSpec
 | [],_=>none
 | (i,s)::r,f=>match Nat.beq i f with
  | true=>some s
  | false=>q5a r f
def DTok (P:Program):DT→Prop
 | []=>True
 | (i,s)::r=>DH P i s∧DTok P r
theorem DTok.cons {P:Program} {i:Nat} {s:DSpec} {T:DT} (h:DH P i s) (hT:DTok P T):DTok P ((i,s)::T):=⟨h,hT⟩
theorem qfI {P:Program}:∀ {T:DT},DTok P T→∀ f s,q5a T f=some s→qaW P f s.to
 | [],_,f,s,h=>by cases h
 | (i,x)::r,hT,f,s,h=>by
  unfold q5a at h
  split at h
  ·
   rename_i e
   have e:=nbeq e; subst e
   cases h; exact hT.1.out
  ·
   exact qfI hT.2 f s h
def q35:List (Nat×Pat)→Nat→Option Pat
 | [],_=>none
 | (i,s)::r,f=>match Nat.beq i f with
  | true=>some s
  | false=>q35 r f
structure Same (env:DOps→DEnv) (d:DFn) (fn:Func) (f:DOps→d.In→Option d.T):Prop where
 out:∀ o v,f o v=d.body (env o) fn v
theorem DFn.body_ok {env:DEnv} {d:DFn} {fn:Func} {v:d.In} {t:d.T} (h:d.body env fn v=some t):∃ c,fn.body=some c∧den env c (d.start fn v) (fun e σ=>match e with
  | .norm | .ret=>d.out.get env.o σ fun t=>some (d.to t)
  | _=>none)=some t:=by
 unfold DFn.body at h
 split at h
 ·
  cases h
 ·
  rename_i c hc; exact⟨c,hc,h⟩
theorem DFn.holds {enV:DOps→DEnv} {env:DEnv} (he:env=enV DOps.std) (hs:env.o=DOps.std) (hΓ:∀ f s,env.spec f=some s→qaW env.P f s.to) {f:FuncId} {fn:Func} {d:DFn} {F:d.In→Option d.T} {Fo:DOps→d.In→Option d.T} (hFo:F=Fo DOps.std) (hf:env.P.funcs[f]? = some fn)
  (hc:∀ args w,(callFunc f args).run env.P w=.ok (.enter f args) w) (hF:Same enV d fn Fo):qaW env.P f (d.spec env.P fn F).to:=by
 have hΓ':∀ f s,env.to.spec f=some s→qaW env.P f s:=fun f s h=>by
  have h:(env.spec f).map DSpec.to=some s:=h
  obtain⟨s',h1,rfl⟩:=Option.map_eq_some_iff.1 h
  exact hΓ f s' h1
 cases hown:d.own with
 | nil =>
  refine qc9.h ?_ hown
  intro w im vals args k o a next Q him hKc hlen hrep hrun hnext
  obtain⟨R,K,r,hrun,hK⟩:=hrun
  rw[hc]
  show Calls env.P f vals w _
  have hrun:(match Nat.ble args.length fn.ntmps with
   | true=>d.getIn DOps.std args [] fun v=>qt2 (F v) fun t=>finD env.P d.ro d.own fn.results.toList 0 (d.out.st (d.of t)) K
   | false=>none)=some r:=hrun
  split at hrun
  ·
   rename_i hle
   have hle:=Nat.le_of_ble_eq_true hle
   have h0:=qub (fn:=fn) him hlen hrep hle
   have h0:SA w qij im im qai ⟨pad args fn.ntmps,[],qca d.own 0 []⟩ _ w:=h0
   obtain⟨v,ρ1,h1,h2⟩:=qtA h0 hrun
   obtain⟨t,h3,h4⟩:=qco h1
   rw[hFo,hF.out DOps.std v,← he] at h3
   obtain⟨c,hb,h5⟩:=DFn.body_ok h3
   rw[hs] at h5
   refine calls_of_wp hf hb ?_
   refine qbP (sp:=env.spec) ⟨fun f s h=>(hΓ' f s h).n _,hKc,fun b hb=>⟨him b hb,fun e=>e⟩,⟨Nat.zero_le _,fun _ e=>False.elim e⟩,fun _ e=>by cases e⟩ c hs rfl rfl h2 h5 fun e σ' a' w' im' ρ' hk h'=>?_
   have key:d.out.get DOps.std σ' (fun t=>some (d.to t))=some t→a'.defers=[]∧∃ v,(results fn a'.tmps).run env.P w'=.ok v w'∧next (a.put o.dst v) w':=fun hk=>by
    obtain⟨t',im2,ρ2,e,h6⟩:=qcv h' hk
    cases e
    rw[hown,d.iso] at h4
    obtain⟨v,im3,ρ3,x,F',g1,g2,g3⟩:=qfk h6 (qjR hK h4) him
    exact⟨h'.st.defers,v,g1,hnext _ _ _ _ _ _ g2 g3⟩
   cases e with
   | norm=>exact key hk
   | ret=>exact key hk
   | exit i=>cases hk
  ·
   cases hrun
 | cons b0 bs0 =>
  refine ql4.h ?_ (by show d.own≠[]; rw[hown]; simp)
  intro w im ρ0 vals args B k o a next Q him hKc hnB hL hlen hrep hrun hnext
  obtain⟨R,K,r,hrun,hK⟩:=hrun
  rw[hc]
  show Calls env.P f vals w _
  have hrun:(match Nat.ble args.length fn.ntmps with
   | true=>d.getIn DOps.std args B fun v=>qt2 (F v) fun t=>finD env.P d.ro d.own fn.results.toList B.length (d.out.st (d.of t)) K
   | false=>none)=some r:=hrun
  have hL:Lent w im ρ0 (qca d.own 0 B):=hL
  split at hrun
  ·
   rename_i hle
   have hle:=Nat.le_of_ble_eq_true hle
   have h0:=qvL (fn:=fn) him hnB hL hlen hrep hle
   obtain⟨v,ρ1,h1,h2⟩:=qtA h0 hrun
   obtain⟨t,h3,h4⟩:=qco h1
   rw[hFo,hF.out DOps.std v,← he] at h3
   obtain⟨c,hb,h5⟩:=DFn.body_ok h3
   rw[hs] at h5
   refine calls_of_wp hf hb ?_
   refine qbP (sp:=env.spec) ⟨fun f s h=>(hΓ' f s h).n _,hKc,fun b hb=>⟨him b hb,fun e=>by
    obtain⟨i,m,e⟩:=e
    exact hL.notim i b m e hb⟩,⟨Nat.zero_le _,fun _ _=>Nat.zero_le _⟩,fun _ e=>by cases e⟩ c hs rfl rfl h2 h5 fun e σ' a' w' im' ρ' hk h'=>?_
   have key:d.out.get DOps.std σ' (fun t=>some (d.to t))=some t→a'.defers=[]∧∃ v,(results fn a'.tmps).run env.P w'=.ok v w'∧next (a.put o.dst v) w':=fun hk=>by
    obtain⟨t',im2,ρ2,e,h6⟩:=qcv h' hk
    cases e
    rw[hown,d.iso] at h4
    rw[hown] at hL
    obtain⟨v,im3,ρ3,x,bs,F',g1,g2,g3⟩:=qiy hnB hL h6 (qnt hK h4) him
    exact⟨h'.st.defers,v,g1,hnext _ _ _ _ _ _ _ g2 g3⟩
   cases e with
   | norm=>exact key hk
   | ret=>exact key hk
   | exit i=>cases hk
  ·
   cases hrun
def mkDE (P:Program) (code:TypeId→Nat) (T:DT) (l c:List (Nat×Pat)) (li:List Nat) (o:DOps):DEnv:=⟨o,P,code,q5a T,q35 l,fun _=>none,q35 c,li,0⟩
def mkDC (P:Program) (code:TypeId→Nat) (T:DT) (l c:List (Nat×Pat)) (li:List Nat) (cu:List (Nat×Pat)) (o:DOps):DEnv:=⟨o,P,code,q5a T,q35 l,q35 cu,q35 c,li,0⟩
theorem q5b {P:Program} {code:TypeId→Nat} (T:DT) (l c:List (Nat×Pat)) (li:List Nat) (hT:DTok P T) {f:Nat} {fn:Func} {d:DFn} {Fo:DOps→d.In→Option d.T} (hF:Same (mkDE P code T l c li) d fn Fo) (hf:P.funcs[f]? = some fn)
  (hc:∀ args w,(callFunc f args).run P w=.ok (.enter f args) w):DH P f (d.spec P fn (Fo DOps.std)) :=
 ⟨DFn.holds (env:=mkDE P code T l c li DOps.std) (enV:=mkDE P code T l c li) rfl rfl (qfI hT) rfl hf hc hF⟩
def orD (s1 s2:DSpec):DSpec:=⟨s1.ro,s1.own,s1.lend,fun o R args B K=>match B with
 | []=>s1.run o R args [] K
 | b::bs=>s2.run o R args (b::bs) K⟩
theorem orD_ok {P:Program} {f:Nat} {s1 s2:DSpec} {b:Bool} {bs:List Bool} (h1:DH P f s1) (h2:DH P f s2) (e1:s1.own=b::bs) (e2:s2.own=b::bs):DH P f (orD s1 s2):=by
 obtain⟨ro1,own1,lend1,run1⟩:=s1
 obtain⟨ro2,own2,lend2,run2⟩:=s2
 dsimp only at e1 e2
 subst e1; subst e2
 have g1:=h1.out.b (show (DSpec.to ⟨ro1,b::bs,lend1,run1⟩).own=b::bs from rfl)
 have g2:=h2.out.b (show (DSpec.to ⟨ro2,b::bs,lend2,run2⟩).own=b::bs from rfl)
 refine⟨ql4.h ?_ (by show b::bs≠[]; simp)⟩
 intro w im ρ0 vals args B k o a next Q him hKc hnB hL hlen hrep hrun hnext
 obtain⟨R,K,r,hrun,hK⟩:=hrun
 cases B with
 | nil=>exact g1 w im ρ0 vals args [] k o a next Q him hKc hnB hL hlen hrep ⟨R,K,r,hrun,hK⟩ hnext
 | cons x xs=>exact g2 w im ρ0 vals args (x::xs) k o a next Q him hKc hnB hL hlen hrep ⟨R,K,r,hrun,hK⟩ hnext
def inlS (env:DOps→DEnv) (ro:Bool) (own:List Bool) (lend:Nat→Bool) (fn:Func):DSpec:=⟨ro,own,lend,fun o R args B k=>match Nat.ble args.length fn.ntmps,fn.body with
 | true,some c=>den (env o) c ⟨pad args fn.ntmps,[],qca own 0 B⟩ fun e σ=>match e with
  | .norm | .ret=>finD (env o).P ro own fn.results.toList B.length σ k
  | _=>none
 | _,_=>none⟩
theorem q5c {enV:DOps→DEnv} {ro:Bool} {own:List Bool} {lend:Nat→Bool} {f:Nat} {fn:Func} (hs:(enV DOps.std).o=DOps.std) (hΓ:∀ f s,(enV DOps.std).spec f=some s→qaW (enV DOps.std).P f s.to) (hf:(enV DOps.std).P.funcs[f]? = some fn)
  (hc:∀ args w,(callFunc f args).run (enV DOps.std).P w=.ok (.enter f args) w):DH (enV DOps.std).P f (inlS enV ro own lend fn):=by
 generalize henv:enV DOps.std=env at *
 have hΓ':∀ f s,env.to.spec f=some s→qaW env.P f s:=fun f s h=>by
  have h:(env.spec f).map DSpec.to=some s:=h
  obtain⟨s',h1,rfl⟩:=Option.map_eq_some_iff.1 h
  exact hΓ f s' h1
 refine⟨?_⟩
 cases hown:own with
 | nil =>
  refine qc9.h ?_ rfl
  intro w im vals args k o a next Q him hKc hlen hrep hrun hnext
  obtain⟨R,K,r,hrun,hK⟩:=hrun
  rw[hc]
  show Calls env.P f vals w _
  have hrun:(match Nat.ble args.length fn.ntmps,fn.body with
   | true,some c=>den (enV DOps.std) c ⟨pad args fn.ntmps,[],qca [] 0 []⟩ fun e σ=>match e with
    | .norm | .ret=>finD (enV DOps.std).P ro [] fn.results.toList 0 σ K
    | _=>none
   | _,_=>none)=some r:=hrun
  rw[henv] at hrun
  split at hrun
  ·
   rename_i c hle hb
   have hle:=Nat.le_of_ble_eq_true hle
   have h0:=qub (fn:=fn) him hlen hrep hle
   refine calls_of_wp hf hb ?_
   refine qbP (sp:=env.spec) ⟨fun f s h=>(hΓ' f s h).n _,hKc,fun b hb=>⟨him b hb,fun e=>e⟩,⟨Nat.zero_le _,fun _ e=>False.elim e⟩,fun _ e=>by cases e⟩ c hs rfl rfl h0 hrun fun e σ' a' w' im' ρ' hk h'=>?_
   have key:finD env.P ro [] fn.results.toList 0 σ' K=some r→a'.defers=[]∧∃ v,(results fn a'.tmps).run env.P w'=.ok v w'∧next (a.put o.dst v) w':=fun hk=>by
    obtain⟨v,im3,ρ3,x,F',g1,g2,g3⟩:=qfk h' (qjR hK hk) him
    exact⟨h'.st.defers,v,g1,hnext _ _ _ _ _ _ g2 g3⟩
   cases e with
   | norm=>exact key hk
   | ret=>exact key hk
   | exit i=>cases hk
  ·
   cases hrun
 | cons b0 bs0 =>
  refine ql4.h ?_ (by show b0::bs0≠[]; simp)
  intro w im ρ0 vals args B k o a next Q him hKc hnB hL hlen hrep hrun hnext
  obtain⟨R,K,r,hrun,hK⟩:=hrun
  rw[hc]
  show Calls env.P f vals w _
  have hrun:(match Nat.ble args.length fn.ntmps,fn.body with
   | true,some c=>den (enV DOps.std) c ⟨pad args fn.ntmps,[],qca (b0::bs0) 0 B⟩ fun e σ=>match e with
    | .norm | .ret=>finD (enV DOps.std).P ro (b0::bs0) fn.results.toList B.length σ K
    | _=>none
   | _,_=>none)=some r:=hrun
  have hL:Lent w im ρ0 (qca (b0::bs0) 0 B):=hL
  rw[henv] at hrun
  split at hrun
  ·
   rename_i c hle hb
   have hle:=Nat.le_of_ble_eq_true hle
   have h0:=qvL (fn:=fn) him hnB hL hlen hrep hle
   refine calls_of_wp hf hb ?_
   refine qbP (sp:=env.spec) ⟨fun f s h=>(hΓ' f s h).n _,hKc,fun b hb=>⟨him b hb,fun e=>by
    obtain⟨i,m,e⟩:=e
    exact hL.notim i b m e hb⟩,⟨Nat.zero_le _,fun _ _=>Nat.zero_le _⟩,fun _ e=>by cases e⟩ c hs rfl rfl h0 hrun fun e σ' a' w' im' ρ' hk h'=>?_
   have key:finD env.P ro (b0::bs0) fn.results.toList B.length σ' K=some r→a'.defers=[]∧∃ v,(results fn a'.tmps).run env.P w'=.ok v w'∧next (a.put o.dst v) w':=fun hk=>by
    obtain⟨v,im3,ρ3,x,bs,F',g1,g2,g3⟩:=qiy hnB hL h' (qnt hK hk) him
    exact⟨h'.st.defers,v,g1,hnext _ _ _ _ _ _ _ g2 g3⟩
   cases e with
   | norm=>exact key hk
   | ret=>exact key hk
   | exit i=>cases hk
  ·
   cases hrun
end
end Go.Eng
namespace Go.Eng
open Go
set_option linter.unusedVariables false
set_option linter.unusedSimpArgs false
noncomputable section
def opsDN {R:Type} (env:DEnv) (all:List Oper):List Oper→Nat→AS→(AS→Option R)→Option R
 | [],_,σ,k=>k σ
 | o::rest,id,σ,k=>oneD env all o id σ fun σ'=>opsDN env all rest (id+1) σ' k
def runDO {R:Type} (env:DEnv) (n:FuncId) (vs:List AV) (l:List Nat) (σ:AS) (F:AS→Option R):Option R :=
 match env.P.funcs[n]?,noGs σ.gs with
 | some fn',true=>match fn'.body,Nat.ble vs.length fn'.ntmps with
  | some c,true=>den env c ⟨pad (qbD σ.locs vs) fn'.ntmps,[],σ.locs⟩ fun e σ4=>match e with
   | .exit _=>none
   | _=>match qvT env.P σ4 fn'.results.toList,noGs σ4.gs with
    | some _,true=>match pinS 0 l ⟨qbD σ4.locs σ.slots,[],σ4.locs⟩ with
     | σ5=>match qnL σ5.locs with
      | true=>F σ5
      | false=>none
    | _,_=>none
  | _,_=>none
 | _,_=>none
def qre {R:Type} (env:DEnv) (n:FuncId) (F:AS→Option R):Code→AS→Option R
 | .seq a b,σ=>match qzC a with
  | none=>den env a σ fun e σ'=>match e with
   | .norm=>qre env n F b σ'
   | .ret=>F σ'
   | .exit _=>none
  | some (id,ops,pre,o,c)=>opsDN env ops.toList pre ((id+1)*1000) σ fun σ1=>match c.callee,noGs σ1.gs with
   | .value f,true=>match σ1.ev none f with
    | .fn (.func n') first cap=>match Nat.beq n' n with
     | true=>match first++c.args.toList.map (σ1.ev none)++cap with
      | vs=>match idsL vs [] with
       | l=>den env b ((pinS 0 l σ1).put o.dst none (.tup [])) fun e σ3=>match e with
        | .exit _=>none
        | _=>runDO env n (pinV 0 l vs) l σ3 F
     | false=>none
    | _=>none
   | _,_=>none
 | c,σ=>den env c σ fun e σ'=>match e with
  | .exit _=>none
  | _=>F σ'
theorem q1F {R:Type} {r:R} {env:DEnv} {k:AS→Option R} {k':AS→Prop} (hs:env.o=DOps.std) {all:List Oper} (hk:∀ σ',k σ'=some r→k' σ'):∀ {l:List Oper} {id:Nat} {σ:AS},opsDN env all l id σ k=some r→qwn env.to all l id σ k'
 | [],_,_,h=>hk _ h
 | o::l,id,σ,h=>by
  unfold opsDN at h
  unfold qwn
  exact qt5 hs (fun σ' hk2=>q1F hs hk hk2) h
section
variable {w0 w : World} {bor : Bor} {im0 im : Nat → Prop} {ρ : Ids} {σ : AS} {a : Act}
theorem qzl {T:Type} {r:T} {env:DEnv} (hs:env.o=DOps.std) (hΓ:Gam env.P (fun f=>(env.spec f).map DSpec.to) (0,none) w0 qij im0) {fn:Func} {F:AS→Option T} {n:FuncId} {vs:List AV} {l:List Nat} {pin:Ids} {vals us:Array Value} {R:Ending→World→Prop}
  (hc:∀ args w,(callFunc n args).run env.P w=.ok (.enter n args) w) {dargs:Array Value} (hda:dargs++us=vals)
  (h:SA w0 ⟨fun _=>False,pin,[{target:=.fn (.func n) us,args:=dargs}]⟩ im0 im ρ σ a w) (hlen:vals.size=vs.length)
  {w1:World} {im1:Nat→Prop} {ρ1:Ids} (hpin1:∀ i x,i<900→ρ1 i=some x→pin i=some x) (hvs:∀ (j:Nat) (v:Value),vals[j]? = some v→Rep w1 im1 ρ1 v (nth vs j))
  (hv:runDO env n vs l σ F=some r) (hfin:∀ σ' a' w' im' ρ',a'.tmps=a.tmps→F σ'=some r→SA w0 qij im0 im' ρ' σ' a' w'→∃ v,(results fn a'.tmps).run env.P w'=.ok v w'∧R (.returned v) w') :
  Leaves env.P fn a.tmps R a.defers .returning w:=by
 unfold runDO at hv
 split at hv
 ·
  rename_i fn' hf' hgs
  split at hv
  ·
   rename_i c hb hle
   have hle:=Nat.le_of_ble_eq_true hle
   have hgs:=qfj hgs
   have hdf:a.defers=[{target:=.fn (.func n) us,args:=dargs}]:=h.st.defers
   rw[hdf]
   refine leaves_cons (f:=n) (args:=vals) (by simp) (by simp only[invoke]; rw[hda]; exact hc vals w) ?_
   have hL:∀ i b,lget σ.locs i=some b→∃ x,ρ i=some x:=fun i b hl=>by
    obtain⟨ob,h1,-⟩:=h.st.blk i b hl
    exact⟨ob,h1⟩
   have hkl:(qbD σ.locs vs).length=vs.length:=by rw[qd0]; simp
   have h0:SA w0 ⟨fun _=>False,pin,[]⟩ im0 im ρ ⟨pad (qbD σ.locs vs) fn'.ntmps,[],σ.locs⟩ {tmps:=vals++Array.replicate (fn'.ntmps - vals.size) undef,defers:=[]} w:=by
    refine⟨⟨rfl,?_,fun i v hi=>?_,h.st.dom,h.st.blk,h.st.inj,h.st.notim,h.st.imlt,h.st.imold,h.st.imnew,h.st.own,h.st.pin,h.st.shp,h.st.blt,h.st.os,h.st.tape,h.st.output,h.st.size,h.st.frame⟩,h.uniq⟩
    ·
     simp[pad,hkl]; omega
    ·
     show Rep w im ρ v (nth (pad (qbD σ.locs vs) fn'.ntmps) i)
     refine slot_pad (by rw[hkl]; exact hlen) (by rw[hkl]; exact hle) (fun j v hj=>?_) i v hi
     rw[qd0,qag (by rfl)]
     exact qwo (hvs j v hj) hpin1 h.st.pin hL
   refine CallsD.mono (callsD_of_wp (R:=fun e w'=>match e with | .returned _=>Leaves env.P fn a.tmps R [] .returning w' | _=>False) hf' hb ?_) fun e u' w' he=>?_
   ·
    refine qbP (bor:=⟨fun _=>False,pin,[]⟩) (w0:=w0) (im0:=im0) (sp:=env.spec) (P:=env.P) ⟨hΓ.h,hΓ.k,hΓ.b,⟨hΓ.yg.1,fun _ h=>h.elim⟩,hΓ.wd⟩ c (env:=env) hs rfl rfl h0 hv fun e σ' a' w' im' ρ' hk h'=>?_
    have key:(match qvT env.P σ' fn'.results.toList,noGs σ'.gs with
      | some _,true=>match pinS 0 l ⟨qbD σ'.locs σ.slots,[],σ'.locs⟩ with
       | σ5=>match qnL σ5.locs with
        | true=>F σ5
        | false=>none
      | _,_=>none)=some r→a'.defers=[]∧∃ v,(results fn' a'.tmps).run env.P w'=.ok v w'∧Leaves env.P fn a.tmps R [] .returning w':=fun hk=>by
     split at hk
     ·
      rename_i rr hr hg
      obtain⟨v,hres,-⟩:=qkd h' (qfj hg) hr
      refine⟨h'.st.defers,v,hres,?_⟩
      dsimp only at hk
      have h5:SA w0 ⟨fun _=>False,pin,[]⟩ im0 im' ρ' ⟨qbD σ'.locs σ.slots,[],σ'.locs⟩ {a with defers:=[]} w':=by
       refine⟨⟨rfl,?_,fun i v hi=>?_,h'.st.dom,h'.st.blk,h'.st.inj,h'.st.notim,h'.st.imlt,h'.st.imold,h'.st.imnew,h'.st.own,h'.st.pin,h'.st.shp,h'.st.blt,h'.st.os,h'.st.tape,h'.st.output,h'.st.size,h'.st.frame⟩,h'.uniq⟩
       ·
        show a.tmps.size=_
        rw[h.st.len,qd0]; simp
       ·
        have:=h.st.slot i v hi
        unfold SRep at this
        rw[hgs] at this
        show Rep w' im' ρ' v (nth (qbD σ'.locs σ.slots) i)
        rw[qd0,qag (by rfl)]
        exact qwo this h.st.pin h'.st.pin fun i b hl=>by
         obtain⟨ob,h1,-⟩:=h'.st.blk i b hl
         exact⟨ob,h1⟩
      obtain⟨ρ6,h6,-⟩:=qzD l 0 h5
      split at hk
      case h_2=>cases hk
      rename_i hhi
      have h7:SA w0 qij im0 im' ρ6 (pinS 0 l ⟨qbD σ'.locs σ.slots,[],σ'.locs⟩) {a with defers:=[]} w':=by
       refine⟨⟨rfl,h6.st.len,h6.st.slot,h6.st.dom,h6.st.blk,h6.st.inj,h6.st.notim,h6.st.imlt,h6.st.imold,h6.st.imnew,h6.st.own,fun i x hlt hx=>?_,h6.st.shp,h6.st.blt,h6.st.os,h6.st.tape,h6.st.output,h6.st.size,h6.st.frame⟩,h6.uniq⟩
       exfalso
       cases hl:lget (pinS 0 l ⟨qbD σ'.locs σ.slots,[],σ'.locs⟩).locs i with
       | none=>rw[h6.st.dom i hl] at hx; cases hx
       | some b=>have:=qrr hhi i b hl; omega
      exact hfin _ {a with defers:=[]} _ _ _ rfl hk h7
     ·
      cases hk
    cases e with
    | norm=>exact key hk
    | ret=>exact key hk
    | exit i=>cases hk
   ·
    obtain⟨rfl,he⟩:=he
    cases e with
    | returned v=>exact he
    | panicked ch=>exact he.elim
    | outgrown=>exact he.elim
  ·
   cases hv
 ·
  cases hv
theorem qvM {T:Type} {r:T} {env:DEnv} (hs:env.o=DOps.std) (hΓ:Gam env.P (fun f=>(env.spec f).map DSpec.to) (0,none) w0 qij im0) {n:FuncId} (hcall:∀ args w,(callFunc n args).run env.P w=.ok (.enter n args) w) {fn:Func} {F:AS→Option T} {R:Ending→World→Prop}
  (hfin:∀ σ' a' w' im' ρ',F σ'=some r→SA w0 qij im0 im' ρ' σ' a' w'→∃ v,(results fn a'.tmps).run env.P w'=.ok v w'∧R (.returned v) w') :
  ∀ (c:Code) {σ:AS} {a:Act} {w:World} {im:Nat→Prop} {ρ:Ids},SA w0 qij im0 im ρ σ a w→qre env n F c σ=some r→c.wp env.P (bodyPostD env.P fn R) a w:=by
 have fin:∀ {σ' a' w' im' ρ'},F σ'=some r→SA w0 qij im0 im' ρ' σ' a' w'→Leaves env.P fn a'.tmps R a'.defers .returning w':=fun hk h'=>by
  rw[h'.st.defers]
  exact hfin _ _ _ _ _ hk h'
 have plain:∀ (c:Code) {σ:AS} {a:Act} {w:World} {im:Nat→Prop} {ρ:Ids},SA w0 qij im0 im ρ σ a w→(den env c σ fun e σ'=>match e with
   | .exit _=>none
   | _=>F σ')=some r→c.wp env.P (bodyPostD env.P fn R) a w:=fun c σ a w im ρ h hv =>
  qbP hΓ c (env:=env) hs rfl rfl h hv fun e σ' a' w' im' ρ' hk h'=>by
   cases e with
   | norm=>exact fin hk h'
   | ret=>exact fin hk h'
   | exit i=>cases hk
 intro c
 induction c with
 | seq x y ihx ihy =>
  intro σ a w im ρ h hv
  unfold qre at hv
  refine wp_seq ?_
  split at hv
  ·
   refine qbP hΓ x (env:=env) hs rfl rfl h hv fun e σ' a' w' im' ρ' hk h'=>?_
   cases e with
   | norm=>exact ihy h' hk
   | ret=>exact fin hk h'
   | exit i=>cases hk
  ·
   rename_i id ops pre o c hd
   obtain⟨rfl,hops,hop,hog⟩:=q3M hd
   refine wp_region_list ?_
   rw[hops]
   refine ql3 (env:=env.to) hΓ pre _ h (q1F (k':=fun σ'=>_=some r) hs (fun σ' hk=>hk) hv) fun σ1 a1 w1 im1 ρ1 hk h1=>?_
   split at hk
   ·
    rename_i f hcl hgs
    split at hk
    ·
     rename_i n' first cap hf
     split at hk
     case h_2=>cases hk
     rename_i hnn
     have hnn:=nbeq hnn
     rw[hnn] at hf
     clear hnn
     dsimp only at hk
     generalize hxs:first++c.args.toList.map (σ1.ev none)++cap=xs at hk
     have hgs:=qfj hgs
     have hr:=h1.ev (g:=none) (fun _ _ e=>by cases e) f
     rw[hf] at hr
     obtain⟨vs,us,hfe,hvs,hus,g1,g2⟩:=hr.inv_fn
     have hargs:=qdQ a1.eval (σ1.ev none) (fun x=>h1.ev (fun _ _ e=>by cases e) x) c.args.toList
     have hrun:(execOp a1.eval o).run env.P w1=.ok (.defer {target:=.fn (.func n) us,args:=vs++c.args.map a1.eval}) w1:=by
      simp only[execOp,hop,resolve,hcl,hfe,Deferred.ofValue,Sem.run_bind,Sem.run_pure,Result.andThen_ok]
     have hxl:(vs++c.args.map a1.eval++us).size=xs.length:=by rw[← hxs]; simp[hvs,hus]
     have hxr:∀ (j:Nat) (v:Value),(vs++c.args.map a1.eval++us)[j]? = some v→Rep w1 im1 ρ1 v (nth xs j):=by
      intro j v hj
      rw[← hxs]
      rw[Array.getElem?_append] at hj
      split at hj
      ·
       rename_i hj1
       rw[qam,List.getElem?_append_left (by simp at hj1 ⊢; omega),← qam]
       rw[Array.getElem?_append] at hj
       split at hj
       ·
        rename_i hj2
        rw[qam,List.getElem?_append_left (by omega),← qam]
        exact g1 j v hj
       ·
        rename_i hj2
        rw[qam,List.getElem?_append_right (by omega),← qam,← hvs]
        exact hargs _ v (by simpa using hj)
      ·
       rename_i hj1
       simp only[Array.size_append,Array.size_map] at hj1 hj
       rw[qam,List.getElem?_append_right (by simp; omega),← qam]
       have e:j - (first++List.map (σ1.ev none) c.args.toList).length=j - (vs.size+c.args.size):=by simp[hvs]
       rw[e]
       exact g2 _ v hj
     generalize hl:idsL xs []=l at hk
     obtain⟨ρ2,h2,h2r⟩:=qzD l 0 h1
     have hpl:∀ (l:List Nat) (n:Nat) (xs:List AV),(pinV n l xs).length=xs.length:=by
      intro l
      induction l with
      | nil=>intro n xs; rfl
      | cons i r ih=>intro n xs; rw[pinV,ih,qaQ,List.length_map]
     have hpg:∀ (l:List Nat) (n:Nat) (σ:AS),(pinS n l σ).gs=σ.gs:=by
      intro l
      induction l with
      | nil=>intro n σ; rfl
      | cons i r ih=>intro n σ; rw[pinS,ih]; rfl
     have h3:SA w0 ⟨fun _=>False,ρ2,[{target:=.fn (.func n) us,args:=vs++c.args.map a1.eval}]⟩ im0 im1 ρ2 (pinS 0 l σ1) {a1 with defers:={target:=.fn (.func n) us,args:=vs++c.args.map a1.eval}::a1.defers} w1 :=
      ⟨⟨by show _::a1.defers=_; rw[h1.st.defers]; rfl,h2.st.len,h2.st.slot,h2.st.dom,h2.st.blk,h2.st.inj,h2.st.notim,h2.st.imlt,h2.st.imold,h2.st.imnew,h2.st.own,h2.st.pin,h2.st.shp,h2.st.blt,h2.st.os,h2.st.tape,h2.st.output,h2.st.size,h2.st.frame⟩,h2.uniq⟩
     have hclash:(pinS 0 l σ1).clash o.dst=false:=by
      unfold AS.clash
      cases o.dst with
      | none=>rfl
      | some d=>dsimp only; rw[hpg,hgs]; rfl
     have h4:=h3.put hclash (v:=undef) qaO
     unfold wpList
     have hstep:o.wp env.P a1 w1 (wpList env.P ops (Exit.then (y.wp env.P (bodyPostD env.P fn R)) (bodyPostD env.P fn R)) []) (Exit.then (y.wp env.P (bodyPostD env.P fn R)) (bodyPostD env.P fn R)):=by
      unfold Oper.wp
      rw[hrun,Oper.upon_defer]
      show y.wp env.P (bodyPostD env.P fn R) _ w1
      refine qbP (bor:=⟨fun _=>False,ρ2,[{target:=.fn (.func n) us,args:=vs++c.args.map a1.eval}]⟩) (w0:=w0) (im0:=im0) (sp:=env.spec) (P:=env.P) ⟨hΓ.h,hΓ.k,hΓ.b,⟨hΓ.yg.1,fun _ h=>h.elim⟩,hΓ.wd⟩ y (env:=env) hs rfl rfl h4 hk fun e σ' a' w' im' ρ' hk' h'=>?_
      have key:runDO env n (pinV 0 l xs) l σ' F=some r→Leaves env.P fn a'.tmps R a'.defers .returning w':=fun hk'=>by
       exact qzl hs hΓ hcall rfl h' (by rw[hpl]; exact hxl) (fun _ _ _ hx=>hx) (h2r _ _ hxr) hk' fun σ' a' w' im' ρ' _ hk h'=>hfin _ _ _ _ _ hk h'
      cases e with
      | norm=>exact key hk'
      | ret=>exact key hk'
      | exit i=>cases hk'
     split
     ·
      exact .inl hstep
     ·
      rename_i hw
      exfalso
      apply hw
      simp[Region.wanted,hog]
    ·
     cases hk
   ·
    cases hk
 | skip=>intro σ a w im ρ h hv; unfold qre at hv; exact plain _ h hv
 | _=>intros; rename_i h hv; unfold qre at hv; exact plain _ h hv
end
def DFn.bodyT (env:DEnv) (d:DFn) (n:FuncId) (fn:Func) (v:d.In):Option d.T:=match fn.body with
 | none=>none
 | some c=>qre env n (fun σ=>d.out.get env.o σ fun t=>some (d.to t)) c (d.start fn v)
structure SameT (env:DOps→DEnv) (d:DFn) (n:FuncId) (fn:Func) (f:DOps→d.In→Option d.T):Prop where
 out:∀ o v,f o v=d.bodyT (env o) n fn v
theorem DFn.holdsT {enV:DOps→DEnv} {env:DEnv} (he:env=enV DOps.std) (hs:env.o=DOps.std) (hΓ:∀ f s,env.spec f=some s→qaW env.P f s.to) {f n:FuncId} {fn:Func} {d:DFn} {Fo:DOps→d.In→Option d.T} (hown:d.own=[]) (hf:env.P.funcs[f]? = some fn)
  (hc:∀ args w,(callFunc f args).run env.P w=.ok (.enter f args) w) (hcall:∀ args w,(callFunc n args).run env.P w=.ok (.enter n args) w) (hF:SameT enV d n fn Fo):qaW env.P f (d.spec env.P fn (Fo DOps.std)).to:=by
 have hΓ':∀ f s,env.to.spec f=some s→qaW env.P f s:=fun f s h=>by
  have h:(env.spec f).map DSpec.to=some s:=h
  obtain⟨s',h1,rfl⟩:=Option.map_eq_some_iff.1 h
  exact hΓ f s' h1
 refine qc9.h ?_ hown
 intro w im vals args k o a next Q him hKc hlen hrep hrun hnext
 obtain⟨R,K,r,hrun,hK⟩:=hrun
 rw[hc]
 show Calls env.P f vals w _
 have hrun:(match Nat.ble args.length fn.ntmps with
  | true=>d.getIn DOps.std args [] fun v=>qt2 (Fo DOps.std v) fun t=>finD env.P d.ro d.own fn.results.toList 0 (d.out.st (d.of t)) K
  | false=>none)=some r:=hrun
 split at hrun
 ·
  rename_i hle
  have hle:=Nat.le_of_ble_eq_true hle
  have h0:=qub (fn:=fn) him hlen hrep hle
  have h0:SA w qij im im qai ⟨pad args fn.ntmps,[],qca d.own 0 []⟩ _ w:=h0
  obtain⟨v,ρ1,h1,h2⟩:=qtA h0 hrun
  obtain⟨t,h3,h4⟩:=qco h1
  rw[hF.out DOps.std v,← he] at h3
  unfold DFn.bodyT at h3
  split at h3
  ·
   cases h3
  ·
   rename_i c hb
   rw[hs] at h3
   refine calls_of_wp_defers hf hb ?_
   refine qvM hs ⟨fun f s h=>(hΓ' f s h).n _,hKc,fun b hb=>⟨him b hb,fun e=>e⟩,⟨Nat.zero_le _,fun _ e=>False.elim e⟩,fun _ e=>by cases e⟩ hcall (fun σ' a' w' im' ρ' hk h'=>?_) c h2 h3
   obtain⟨t',im2,ρ2,e,h6⟩:=qcv h' hk
   cases e
   rw[hown,d.iso] at h4
   obtain⟨v,im3,ρ3,x,F',g1,g2,g3⟩:=qfk h6 (qjR hK h4) him
   exact⟨v,g1,hnext _ _ _ _ _ _ g2 g3⟩
 ·
  cases hrun
theorem holdsTE {P:Program} {code:TypeId→Nat} (T:DT) (l c:List (Nat×Pat)) (li:List Nat) (hT:DTok P T) {f n:Nat} {fn:Func} {d:DFn} {Fo:DOps→d.In→Option d.T} (hown:d.own=[]) (hF:SameT (mkDE P code T l c li) d n fn Fo) (hf:P.funcs[f]? = some fn)
  (hc:∀ args w,(callFunc f args).run P w=.ok (.enter f args) w) (hcall:∀ args w,(callFunc n args).run P w=.ok (.enter n args) w):DH P f (d.spec P fn (Fo DOps.std)) :=
 ⟨DFn.holdsT (env:=mkDE P code T l c li DOps.std) (enV:=mkDE P code T l c li) rfl rfl (qfI hT) hown hf hc hcall hF⟩
end
end Go.Eng
namespace Go.Eng
open Go
def ix {α R:Type} (o:DOps) (z:List α) (n:Int) (d:α) (k:α→Option R):Option R:=req (decide (0≤n)) (req (decide (n<(z.length:Int))) (o.letv (z.getD n.toNat d) k))
def inc {R:Type} (o:DOps) (n:Int) (k:Int→Option R):Option R:=o.letv (IntKind.i64.wrap (n+1)) k
def rb {R:Type} (n:Int) (l:Nat) (q:Option R):Option R:=req (decide (0≤n)) (req (decide (n<(l:Int))) q)
def mks {R:Type} (n:Int) (b:Nat) (q:Option R):Option R:=req (decide (0≤n∧n≤n∧n*(b:Int)≤140737488355328)) q
def rm {R:Type} (n b:Nat) (q:Option R):Option R:=req (decide (n*b≤140737488355328)) q
def rs {R:Type} (a b:Nat) (q:Option R):Option R:=req (sameN a b) q
def wi (n:Int):Int:=IntKind.i64.wrap n
def wq (n:Int):Int:=IntKind.u32.wrap n
def wu (n:Int):Int:=IntKind.u64.wrap n
def wb (n:Int):Int:=IntKind.u8.wrap n
inductive Tr where
 | l (i:Nat)
 | n (a b:Tr)
def sm {R:Type} (o:DOps) (q:List (Option R)):Tr→Option R
 | .l i=>q.getD i none
 | .n a b=>o.same (sm o q a) (sm o q b)
def Tr.ok (m:Nat):Tr→Bool
 | .l i=>Nat.blt i m
 | .n a b=>a.ok m&&b.ok m
def Tr.fst:Tr→Nat
 | .l i=>i
 | .n a _=>a.fst
theorem sm_ev {R:Type} (q:List (Option R)):∀ (t:Tr),sm DOps.ev q t=q.getD t.fst none
 | .l i=>rfl
 | .n a b=>sm_ev q a
theorem qaw {R:Type} {a b:Option R} (h:b=a):DOps.std.same a b=a:=by subst h; exact q33 b
theorem qbg {R:Type} {a b:Option R}:DOps.ev.same a b=a:=rfl
theorem qdp {R:Type} (a d:R) (l:List R):(a::l).getD 0 d=a:=rfl
theorem qdq {R:Type} (a b d:R) (l:List R):(a::b::l).getD 1 d=b:=rfl
theorem qhp {R:Type} (a b c d:R) (l:List R):(a::b::c::l).getD 2 d=c:=rfl
theorem sm_l {R:Type} (o:DOps) (q:List (Option R)) (i:Nat):sm o q (.l i)=q.getD i none:=rfl
theorem sm_n {R:Type} (o:DOps) (q:List (Option R)) (a b:Tr):sm o q (.n a b)=o.same (sm o q a) (sm o q b):=rfl
theorem smE {R:Type} {A:Option R} {l:List (Option R)} {t:Tr} (h:t.fst=0):sm DOps.ev (A::l) t=A:=by rw[sm_ev,h]; rfl
theorem qaC {R:Type} (a b:Bool) (q:Option R):req a (req b q)=req b (req a q):=by cases a <;> cases b <;> rfl
theorem req5 {R:Type} (a b c d e:Bool) (q:Option R):req d (req e (req a (req b (req c q))))=req a (req b (req c (req d (req e q)))):=by cases a <;> cases b <;> cases c <;> cases d <;> cases e <;> rfl
theorem qcw {R:Type} (a b c:Bool) (q:Option R):req b (req a (req c q))=req a (req b (req c q)):=by cases a <;> cases b <;> cases c <;> rfl
theorem qcx {R:Type} (a b c:Bool) (q:Option R):req a (req c (req b q))=req a (req b (req c q)):=by cases a <;> cases b <;> cases c <;> rfl
theorem qcy {R:Type} (a b c:Bool) (q:Option R):req b (req c (req a q))=req a (req b (req c q)):=by cases a <;> cases b <;> cases c <;> rfl
theorem qcz {R:Type} (a b c:Bool) (q:Option R):req c (req a (req b q))=req a (req b (req c q)):=by cases a <;> cases b <;> cases c <;> rfl
theorem qc0 {R:Type} (a b c:Bool) (q:Option R):req c (req b (req a q))=req a (req b (req c q)):=by cases a <;> cases b <;> cases c <;> rfl
theorem qaD {α β:Type} (e:α) (k:α→Option β):DOps.std.letv e k=k e:=rfl
end Go.Eng
