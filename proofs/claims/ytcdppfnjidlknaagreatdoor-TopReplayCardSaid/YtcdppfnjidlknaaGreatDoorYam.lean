import Derived.Test.YtcdppfnjidlknaaGreatDoorYal
set_option linter.unusedVariables false
set_option linter.unusedSimpArgs false
namespace Go.Eng
open Go
section
variable {R : Type} {env : DEnv} {r : R} {σ : AS} {id : Nat} {dst : Option Tmp} {g : Gd} {k : AS → Option R} {k' : AS → Prop}
theorem req_ok {b:Bool}{q:Option R}(h:req b q=some r):b=true∧q=some r:=by
 cases b with
 |true=>exact⟨rfl,h⟩
 |false=>cases h
theorem qhL {o:DOps}(hs:o=DOps.std){p:Prop} [Decidable p]{q:Option R}(h:req1 o p q=some r):p∧q=some r:=by
 subst hs
 exact⟨of_decide_eq_true (req_ok h).1,(req_ok h).2⟩
theorem qwE {p':Prop}:∀ {l:List DP} {q:Option R},(q=some r→p')→q5P DOps.std l q=some r→andD l p'
 | [],_,hq,h=>hq h
 |⟨p,d⟩::l,q,hq,h=>⟨of_decide_eq_true (req_ok h).1,qwE hq (req_ok h).2⟩
theorem q5V {b:Bool}{v:AV}{k':AV→Prop}(h:k' v):qlV b v k'∧q4A b v k':=by
 unfold qlV q4A
 constructor
 ·
  split
  ·
   exact fun x e _=>by subst e;exact h
  ·
   exact h
 ·
  split
  ·
   exact fun x e=>by subst e;exact h
  ·
   exact h
theorem q2G (hs:env.o=DOps.std){b:Bool}{m:Nat}{v:AV}{k:AV→Option R}{k':AV→Prop}(hk:∀ v,k v=some r→k' v)(h:bindD env m v k=some r):qlV b v k'∧q4A b v k':=by
 refine q5V (hk _ ?_)
 unfold bindD at h
 rw[hs] at h
 split at h
 ·
  exact h
 ·
  split at h
  ·
   unfold q5Q at h
   split at h
   ·
    rename_i n
    cases n<;>exact h
   ·
    exact h
  ·
   exact h
 ·
  split at h
  ·
   exact h
  ·
   exact h
 ·
  split at h
  ·
   exact h
  ·
   exact h
theorem qnZ (hs:env.o=DOps.std) {e:TypeId} {m:Nat} {ys:List (ty (env.code e))} {x1:AV} (hk:∀ σ',k σ'=some r→k' σ') (h:qnb env σ dst e id m ys x1 k=some r) :
  qk3 env.to σ dst e id m ys x1 k':=by
 unfold qnb at h
 unfold qk3
 split at h
 ·
  split at h
  ·
   rename_i hab
   obtain⟨h1,h2⟩:=qhL hs h
   rw[hs] at h2
   simp only[hab]
   exact⟨h1,fun zs e=>by subst e;exact hk _ h2⟩
  ·
   cases h
 ·
  split at h
  ·
   rename_i hl
   split at h
   ·
    rename_i hb hd
    obtain⟨h1,h2⟩:=qhL hs h
    rw[hs] at h2
    have hd':decEq _ (env.to.code e)=isTrue _:=hd
    simp only[hl,hb,hd']
    exact⟨h1,fun zs e=>by subst e;exact hk _ h2⟩
   ·
    cases h
  ·
   cases h
 ·
  cases h
theorem q47 (hs:env.o=DOps.std){c:Call}(hk:∀ σ',k σ'=some r→k' σ')(h:q0k env σ g dst c id k=some r):qiE env.to σ g dst c id k':=by
 unfold q0k at h
 unfold qiE
 split at h
 ·
  rename_i x1 x2 t t' ha hat
  rw[ha,hat]
  dsimp only
  split at h
  ·
   rename_i e he
   have he':qhO env.to.P t=some e:=he
   rw[he']
   dsimp only
   split at h
   ·
    cases h
   ·
    rename_i hz
    split
    ·
     rename_i hf
     exact absurd (hf.symm.trans hz) Bool.false_ne_true
    split at h
    ·
     rename_i hb
     rw[hb]
     dsimp only
     split at h
     ·
      cases h
     ·
      rename_i m ys hsr
      have hsr':q0v σ.locs (env.to.code e) (σ.ev g x2)=some (m,ys):=hsr
      rw[hsr']
      exact qnZ hs hk h
    ·
     rename_i hb
     rw[hb]
     dsimp only
     split at h
     ·
      rename_i hu hx hzz
      obtain⟨h1,h2⟩:=qhL hs h
      split
      ·
       rename_i hu2 hx2 hzz2
       have e1:=hx.symm.trans hx2
       have e2:=hzz.symm.trans hzz2
       cases e1;cases e2
       exact⟨h1,qnZ hs hk h2⟩
      ·
       rename_i hno
       exact(hno _ _ _ hu hx hzz).elim
     ·
      cases h
  ·
   cases h
 ·
  cases h
theorem copyD_ok (hs:env.o=DOps.std){c:Call}(hk:∀ σ',k σ'=some r→k' σ')(h:copyD env σ g dst c k=some r):qwP env.to σ g dst c k':=by
 unfold copyD at h
 unfold qwP
 rw[hs] at h
 split at h
 ·
  rename_i x1 x2 t t' ha hat
  rw[ha,hat]
  dsimp only
  split at h
  ·
   rename_i e he
   have he':qhO env.to.P t=some e:=he
   rw[he']
   dsimp only
   split at h
   ·
    rename_i hx
    rw[hx]
    dsimp only
    split at h
    ·
     rename_i ho hsr hl
     have ho':(oneT env.to.P e&&Nat.beq (szOf _) 1)=true:=ho
     rw[ho',hsr,hl]
     dsimp only
     split at h
     ·
      rename_i hd
      rw[hd]
      exact fun zs e=>by subst e;exact hk _ h
     ·
      cases h
    ·
     cases h
   ·
    cases h
  ·
   cases h
 ·
  cases h
theorem q5W {l:List Nat}{x:AV}{bs:List (Option Blk)}{F:List Blk}(hk:∀ σ',k σ'=some r→k' σ')(h:q5R env σ dst l id k x bs F=some r):q2N env.to σ dst l id k' x bs F:=by
 unfold q5R at h
 unfold q2N
 dsimp only at h ⊢
 split at h
 ·
  rename_i h1 h2
  rw[h1,h2]
  exact hk _ h
 ·
  cases h
theorem q5X (hs:env.o=DOps.std){s:DSpec}{args:List AV}(hk:∀ σ',k σ'=some r→k' σ')(h:q5S env σ dst s args id k=some r):q6t env.to σ dst s.to args id k':=by
 unfold q5S at h
 rw[hs] at h
 unfold q6t
 dsimp only at h ⊢
 split at h
 ·
  rename_i B hB hc
  split
  ·
   rename_i B' hB' hc'
   have e:some B=some B':=hB.symm.trans hB'
   cases e
   exact⟨R,_,r,h,fun x bs F hx=>q5W hk hx⟩
  ·
   rename_i hno
   exact(hno B hB hc).elim
 ·
  cases h
theorem callD_ok (hs:env.o=DOps.std){f:FuncId}{args:List AV}(hk:∀ σ',k σ'=some r→k' σ')(h:callD env σ dst f args id k=some r):qwO env.to σ dst f args id k':=by
 unfold callD at h
 unfold qwO
 dsimp only at h ⊢
 have hsp:env.to.spec f=(env.spec f).map DSpec.to:=rfl
 rw[hsp]
 split at h
 ·
  cases h
 ·
  rename_i s hf
  rw[hf]
  show (match s.own with|_::_=>_ | []=>_)
  split at h
  ·
   rename_i ho
   rw[ho]
   exact q5X hs hk h
  ·
   rename_i ho
   rw[ho]
   dsimp only
   show (match s.ro with|true=>_|false=>_)
   split at h
   ·
    rename_i hr
    rw[hr]
    dsimp only
    split at h
    ·
     rename_i hn
     rw[hn]
     rw[hs] at h
     refine⟨R,_,r,h,fun x bs F hx=>?_⟩
     split at hx
     ·
      rename_i h1 h2
      rw[h1,h2];exact hk _ hx
     ·
      cases hx
    ·
     cases h
   ·
    rename_i hr
    rw[hr]
    dsimp only
    split at h
    ·
     rename_i hn
     rw[hn]
     rw[hs] at h
     refine⟨R,_,r,h,fun x bs F hx=>?_⟩
     split at hx
     ·
      rename_i h1 h2
      rw[h1,h2];exact hk _ hx
     ·
      cases hx
    ·
     cases h
theorem q5Y {o:Oper}{len:Nat}{parts:Array (Nat×Operand)}{e:TypeId}{c:Nat}(hk:∀ σ',k σ'=some r→k' σ')(h:q5T env σ g o id len parts e c k=some r):qfy env.to σ g o id len parts e c k':=by
 unfold q5T at h
 unfold qfy
 split at h
 ·
  cases h
 ·
  rename_i hz
  split
  ·
   rename_i hf
   exact absurd (hf.symm.trans hz) Bool.false_ne_true
  dsimp only at h ⊢
  split at h
  ·
   cases h
  ·
   rename_i cs hc
   rw[hc]
   dsimp only
   split at h
   ·
    rename_i xs hx
    rw[hx]
    exact hk _ h
   ·
    cases h
theorem quz (hs:env.o=DOps.std){e:Bool}{p:Prop}(he:p→e=true){k:Bool→Option R}{k':Bool→Prop}(hk:∀ b,k b=some r→k' b)(h:nilD env e k=some r):∀ b:Bool,(b=true→p)→k' b:=by
 have hsame:∀ (a b:Option R),q45 a b=some r→a=some r∧b=some r:=fun a b h=>by
  unfold q45 at h
  split at h
  ·
   rename_i e;exact⟨h,e▸h⟩
  ·
   cases h
 unfold nilD at h
 rw[hs] at h
 intro b hb
 cases b with
 |true =>
  rw[he (hb rfl)] at h
  exact hk _ (hsame _ _ h).1
 |false =>
  cases e with
  |true=>exact hk _ (hsame _ _ h).2
  |false=>exact hk _ h
theorem eopD_ok (hs:env.o=DOps.std){o:Oper}(hk:∀ σ',k σ'=some r→k' σ')(h:eopD env σ g o id k=some r):eop env.to σ g o id k':=by
 unfold eopD at h
 unfold eop
 split at h
 ·
  rename_i t ho
  rw[ho]
  dsimp only
  split at h
  ·
   rename_i z hz
   rw[show qbt env.to.P t=some z from hz]
   dsimp only
   split at h
   ·
    rename_i h1 h2 h3
    rw[h1,h2,h3];exact hk _ h
   ·
    cases h
  ·
   cases h
 ·
  rename_i t x ho
  rw[ho]
  dsimp only
  split at h
  ·
   rename_i b h1 h2 h3
   split
   ·
    rename_i b' h1' h2' h3'
    cases h1.symm.trans h1'
    exact hk _ h
   ·
    rename_i hno
    exact(hno _ h1 h2 h3).elim
  ·
   cases h
 ·
  rename_i t a x ho
  rw[ho]
  dsimp only
  split at h
  ·
   cases h
  ·
   rename_i hcl
   rw[hcl]
   dsimp only at h ⊢
   split at h
   ·
    cases h
   ·
    rename_i hb
    rw[show (Nat.beq (qat (σ.ev g x)).length (qbM env.to.P t)&&Nat.blt 0 (qat (σ.ev g x)).length)=true from hb]
    dsimp only
    split at h
    ·
     rename_i i off ha
     rw[ha]
     dsimp only
     split at h
     ·
      rename_i ds hl
      rw[hl]
      dsimp only
      split at h
      ·
       rename_i hle
       rw[hle];exact hk _ h
      ·
       cases h
     ·
      rename_i c xs hl
      rw[hl]
      dsimp only
      split at h
      ·
       rename_i ys h1 h2
       rw[h1,h2]
       obtain⟨h3,h4⟩:=qhL hs h
       exact⟨h3,hk _ h4⟩
      ·
       cases h
     ·
      cases h
    ·
     rename_i c i idx off ha
     rw[ha]
     dsimp only at h ⊢
     split at h
     ·
      rename_i c' xs hl
      rw[hl]
      dsimp only
      split at h
      ·
       rename_i y h1 h2
       rw[h1,h2]
       obtain⟨h3,h4⟩:=qhL hs h
       rw[hs] at h4
       exact⟨h3,fun zs e=>by subst e;exact hk _ h4⟩
      ·
       cases h
     ·
      cases h
    ·
     cases h
 ·
  rename_i t len parts ho
  rw[ho]
  dsimp only
  split at h
  ·
   rename_i e h1 h2 h3
   rw[show qhO env.to.P t=some e from h1,h2,h3]
   exact q5Y hk h
  ·
   cases h
 ·
  rename_i t len cap ho
  rw[ho]
  dsimp only
  split at h
  ·
   rename_i e n m h1 h2 h3 h4 h5
   rw[show qhO env.to.P t=some e from h1,h2,h3,h4,h5]
   dsimp only
   split at h
   ·
    rename_i z h6 h7
    rw[show qbu env.to.P e (env.to.code e)=true from h6,show qbt env.to.P e=some z from h7]
    dsimp only
    split at h
    ·
     rename_i x h8
     rw[show dec (env.to.code e) z=some x from h8]
     obtain⟨h9,h10⟩:=qhL hs h
     exact⟨h9,hk _ h10⟩
    ·
     cases h
   ·
    cases h
  ·
   cases h
 ·
  rename_i s d x ho
  rw[ho]
  dsimp only
  split at h
  ·
   rename_i e e' c i a n h1 h2 h3 h4
   rw[show env.to.P.underlying s=some _ from h1,show env.to.P.underlying d=some _ from h2,h3,h4]
   dsimp only
   split at h
   ·
    rename_i h5 h6 h7
    rw[h5,show env.to.P.underlying e'=some _ from h6,show env.to.P.underlying e=some _ from h7]
    dsimp only
    split at h
    ·
     rename_i c' xs hl
     rw[hl]
     dsimp only
     split at h
     ·
      rename_i hc
      rw[hc]
      obtain⟨h8,h9⟩:=qhL hs h
      exact⟨h8,hk _ h9⟩
     ·
      cases h
    ·
     cases h
   ·
    cases h
  ·
   cases h
 ·
  rename_i op t x y yt ho
  rw[ho]
  dsimp only
  split at h
  ·
   rename_i h1 h2 h3 h4
   rw[show env.to.P.underlying t=some _ from h1,h2,h3,h4]
   exact quz hs (fun e=>by rw[e];rfl) (k':=fun b=>k' (σ.put o.dst none (.bool b))) (fun b hb=>hk _ hb) h
  ·
   rename_i h1 h2 h3 h4
   rw[show env.to.P.underlying t=some _ from h1,h2,h3,h4]
   intro b hb
   have h5:=quz hs (fun e=>by rw[e];rfl) (k':=fun b=>k' (σ.put o.dst none (.bool !b))) (fun b hb=>hk _ hb) h (!b) (fun e=>hb (by simpa using e))
   simpa using h5
  ·
   rename_i h1 h2 h3 h4
   rw[show env.to.P.underlying t=some _ from h1,h2,h3,h4]
   exact quz hs (fun e=>by rw[e];rfl) (k':=fun b=>k' (σ.put o.dst none (.bool b))) (fun b hb=>hk _ hb) h
  ·
   rename_i h1 h2 h3 h4
   rw[show env.to.P.underlying t=some _ from h1,h2,h3,h4]
   intro b hb
   have h5:=quz hs (fun e=>by rw[e];rfl) (k':=fun b=>k' (σ.put o.dst none (.bool !b))) (fun b hb=>hk _ hb) h (!b) (fun e=>hb (by simpa using e))
   simpa using h5
  ·
   cases h
 ·
  rename_i c ho
  rw[ho]
  dsimp only
  split at h
  ·
   rename_i h1 h2
   rw[h1,h2];exact q47 hs hk h
  ·
   rename_i h1 h2
   rw[h1,h2];exact copyD_ok hs hk h
  ·
   rename_i f h1 h2
   rw[h1,h2]
   dsimp only
   split at h
   ·
    rename_i n a b h3
    rw[h3];exact callD_ok hs hk h
   ·
    cases h
  ·
   cases h
 ·
  cases h
theorem qoa:∀ (n tc:Nat) (w:Bool),All (q0w σ n tc w)→∀ g∈qwD σ n tc w,g=true
 |0,tc,w,_=>fun g hg=>by cases hg
 |n+1,tc,w,h=>by
  unfold q0w at h
  unfold qwD
  split at h
  ·
   rename_i h0
   rw[h0]
   dsimp only
   split at h
   ·
    rename_i b hb
    rw[hb]
    intro g hg
    cases hg with
    |head=>exact qdC.2 h.1.symm
    |tail _ hg=>cases hg
   ·
    rename_i h1
    split
    ·
     rename_i b hb
     exact absurd hb (h1 b)
    ·
     exact fun g hg=>by cases hg
  ·
   rename_i tc' w' h0
   rw[h0]
   dsimp only
   split at h
   ·
    rename_i b hb
    rw[hb]
    intro g hg
    cases hg with
    |head=>exact qdC.2 h.1.symm
    |tail _ hg=>exact qoa n tc' w' h.2 g hg
   ·
    rename_i h1
    split
    ·
     rename_i b hb
     exact absurd hb (h1 b)
    ·
     exact qoa n tc' w' h
theorem q5Z:∀ {l:List Bool} {b:Bool},impB l b=true→(∀ g∈l,g=true)→b=true
 | [],b,h,_=>h
 |g::l,b,h,hg=>by
  have h:(!g||impB l b)=true:=h
  rw[hg g (.head _)] at h
  exact q5Z h fun x hx=>hg x (.tail _ hx)
theorem q6a:∀ {l:List DP},allD l=true→conjD l
 | [],_=>trivial
 | [⟨p,d⟩],h=>by
  show p
  cases d with
  |isTrue hp=>exact hp
  |isFalse hp=>cases h
 |⟨p,d⟩::x::l,h=>by
  have h:(@decide p d&&allD (x::l))=true:=h
  simp only[Bool.and_eq_true] at h
  exact⟨of_decide_eq_true h.1,q6a h.2⟩
theorem q6b {p':Prop}{gl:List Prop}{gb:List Bool}(hg:conj gl→∀ g∈gb,g=true):∀ {l:List DP} {q:Option R},(q=some r→p')→underD DOps.std gb l q=some r→q6u gl l p'
 | [],_,hq,h=>hq h
 |p::l,q,hq,h=>⟨fun hc=>q6a (q5Z (req_ok h).1 (hg hc)),hq (req_ok h).2⟩
theorem qwF {b:Bool}{x y:Option R}{p q:Prop}(h:cond b x y=some r)(hx:x=some r→p)(hy:y=some r→q):br b p q:=by
 cases b
 ·
  exact hy h
 ·
  exact hx h
theorem qrR:∀ (n tc:Nat) {k:AS→Option R} {k':AS→Prop} (hk:∀ σ',k σ'=some r→k' σ'),quy DOps.std σ n tc k=some r→qk4 σ n tc k'
 |0,tc,k,k',hk,h=>by cases h
 |n+1,tc,k,k',hk,h=>by
  unfold quy at h
  unfold qk4
  split at h
  ·
   rename_i h0
   rw[h0]
   dsimp only
   split at h
   ·
    rename_i b hb
    rw[hb];exact qwF h (hk _) (hk _)
   ·
    rename_i hb
    rw[hb];exact hk _ h
   ·
    cases h
  ·
   rename_i tc' w0 h0
   rw[h0]
   dsimp only
   refine qrR n tc' (fun σ' hk2=>?_) h
   split at hk2
   ·
    cases hk2
   ·
    rename_i tc2 w' h2
    rw[h2]
    dsimp only
    split at hk2
    ·
     cases hk2
    ·
     rename_i h3
     rw[h3]
     dsimp only
     split at hk2
     ·
      rename_i b hb
      rw[hb]
      dsimp only
      split at hk2
      ·
       rename_i hw
       rw[hw]
       dsimp only
       split at hk2
       ·
        rename_i b2 hb2
        rw[hb2];exact qwF hk2 (hk _) (hk _)
       ·
        rename_i hb2
        rw[hb2];exact hk _ hk2
       ·
        cases hk2
      ·
       rename_i hw
       rw[hw];exact hk _ hk2
     ·
      rename_i hb
      rw[hb];exact hk _ hk2
     ·
      cases hk2
theorem q6c (hs:env.o=DOps.std){o:Oper}(hk:∀ σ',k σ'=some r→k' σ')(h:runD env σ g o id k=some r):qoe env.to σ g o id k':=by
 unfold runD at h
 unfold qoe
 split at h
 ·
  rename_i pre v hp
  rw[show pop env.to.P σ g o=.ok pre v from hp]
  rw[hs] at h
  refine qwE (fun hq=>?_) h
  split at hq
  ·
   cases hq
  ·
   rename_i hc
   rw[hc]
   exact(q2G hs (fun v=>hk _) hq).1
 ·
  rename_i hp
  rw[show pop env.to.P σ g o=.bad from hp]
  exact eopD_ok hs hk h
theorem q2H {o:Oper}(hk:∀ σ',k σ'=some r→k' σ')(h:skipD σ o k=some r):qfz σ o k':=by
 unfold skipD at h
 unfold qfz
 split at h
 ·
  cases h
 ·
  rename_i hc
  rw[hc];exact hk _ h
theorem qu0 (hs:env.o=DOps.std){all:List Oper}{o:Oper}(hk:∀ σ',k σ'=some r→k' σ')(h:oneD env all o id σ k=some r):qrr env.to all o id σ k':=by
 unfold oneD at h
 unfold qrr
 split at h
 ·
  rename_i hg
  rw[hg];exact q6c hs hk h
 ·
  rename_i j w hg
  rw[hg]
  dsimp only
  split at h
  ·
   cases h
  ·
   rename_i tc htc
   rw[htc]
   show (match pop env.to.P σ (some (tc,w)) o with|.ok pre v=>_|.bad=>_)
   split at h
   ·
    rename_i pre v hp
    rw[show pop env.to.P σ (some (tc,w)) o=.ok pre v from hp]
    rw[hs] at h
    refine q6b (fun hc=>qoa _ _ _ (all_conj hc)) (fun hq=>?_) h
    split at hq
    ·
     rename_i h1 h2
     split
     ·
      exact(q2G hs (fun v=>hk _) hq).2
     ·
      rename_i hno
      exact(hno h1 h2).elim
    ·
     cases hq
   ·
    rename_i hp
    rw[show pop env.to.P σ (some (tc,w)) o=.bad from hp]
    rw[hs] at h
    refine qrR 20 tc (fun σ' hk2=>?_) h
    split at hk2
    ·
     rename_i b hb
     rw[hb]
     dsimp only
     split at hk2
     ·
      rename_i hw
      rw[hw];exact q6c hs hk hk2
     ·
      rename_i hw
      rw[hw];exact q2H hk hk2
    ·
     rename_i hb
     split
     ·
      rename_i b hb2
      exact absurd hb2 (hb b)
     ·
      exact q2H hk hk2
theorem q6d (hs:env.o=DOps.std){all:List Oper}(hk:∀ σ',k σ'=some r→k' σ'):∀ {l:List Oper} {id:Nat} {σ:AS},opsD env all l id σ k=some r→q4B env.to all l id σ k'
 | [],_,_,h=>hk _ h
 |o::l,id,σ,h=>by
  unfold opsD at h
  unfold q4B
  exact qu0 hs (fun σ' hk2=>q6d hs hk hk2) h
theorem qwG (n:Nat)(k:Nat→Prop):qa7 n k=k n:=by cases n<;>rfl
theorem qwH (n:Nat)(k:Nat→Option R):q5U n k=k n:=by cases n<;>rfl
theorem q6e (hs:env.o=DOps.std){ops:List Oper}{f:Nat→Oper→Option R}{f':Nat→Oper→Prop}(hf:∀ i o,f i o=some r→f' i o):∀ {l:List Nat},allO env.o ops f l=some r→allM ops f' l
 | [],h=>by cases h
 | [i],h=>by
  unfold allO at h
  unfold allM
  dsimp only at h ⊢
  split at h
  ·
   rename_i o ho
   rw[ho];exact hf _ _ h
  ·
   cases h
 |i::j::l,h=>by
  unfold allO at h
  unfold allM
  rw[hs] at h
  dsimp only at h ⊢
  have hsame:∀ (a b:Option R),q45 a b=some r→a=some r∧b=some r:=fun a b h=>by
   unfold q45 at h
   split at h
   ·
    rename_i e;exact⟨h,e▸h⟩
   ·
    cases h
  obtain⟨h1,h2⟩:=hsame _ _ h
  refine⟨?_,q6e hs hf (by rw[hs];exact h2)⟩
  split at h1
  ·
   rename_i o ho
   rw[ho];exact hf _ _ h1
  ·
   cases h1
theorem q0l (hs:env.o=DOps.std){ops:Array Oper}(hk:∀ σ',k σ'=some r→k' σ'):∀ {n m:Nat} {σ:AS},anyD env ops id n m σ k=some r→qof env.to ops id n m σ k'
 |0,m,σ,h=>by
  unfold anyD at h
  unfold qof
  split at h
  ·
   rename_i hr
   rw[hr];exact hk _ h
  ·
   cases h
 |n+1,m,σ,h=>by
  unfold anyD at h
  unfold qof
  split at h
  ·
   rename_i hr
   rw[hr];exact hk _ h
  ·
   rename_i rs hr
   split
   ·
    rename_i hr2
    exact(hr hr2).elim
   ·
    split at h
    ·
     rename_i i o hp
     rw[hp]
     refine qu0 hs (fun σ' hk2=>?_) h
     rw[qwH] at hk2
     rw[qwG]
     exact q0l hs hk hk2
    ·
     rename_i hp
     rw[hp]
     refine q6e hs (fun i o hk1=>qu0 hs (fun σ' hk2=>?_) hk1) h
     rw[qwH] at hk2
     rw[qwG]
     exact q0l hs hk hk2
end
end Go.Eng
