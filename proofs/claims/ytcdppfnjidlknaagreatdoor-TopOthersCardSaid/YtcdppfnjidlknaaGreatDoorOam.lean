import Derived.Test.YtcdppfnjidlknaaGreatDoorOal
set_option linter.unusedVariables false
set_option linter.unusedSimpArgs false
namespace Go.Eng
open Go
section
variable {R : Type} {env : DEnv} {r : R} {σ : AS} {id : Nat} {dst : Option Tmp} {g : Gd} {k : AS → Option R} {k' : AS → Prop}
theorem req_ok {b:Bool}{q:Option R}(h:req b q=some r):b=true∧q=some r:=by
 cases b with
 |true=>exact⟨rfl,h⟩
 |false=>cases h
theorem qhK {o:DOps}(hs:o=DOps.std){p:Prop} [Decidable p]{q:Option R}(h:req1 o p q=some r):p∧q=some r:=by
 subst hs
 exact⟨of_decide_eq_true (req_ok h).1,(req_ok h).2⟩
theorem qwG {p':Prop}:∀ {l:List DP} {q:Option R},(q=some r→p')→q5S DOps.std l q=some r→andD l p'
 | [],_,hq,h=>hq h
 |⟨p,d⟩::l,q,hq,h=>⟨of_decide_eq_true (req_ok h).1,qwG hq (req_ok h).2⟩
theorem q5Y {b:Bool}{v:AV}{k':AV→Prop}(h:k' v):qlV b v k'∧q4F b v k':=by
 unfold qlV q4F
 constructor
 ·
  split
  ·
   exact fun x e _=>by subst e;exact h
  ·
   exact h
 ·
  split
  ·
   exact fun x e=>by subst e;exact h
  ·
   exact h
theorem q2G (hs:env.o=DOps.std){b:Bool}{m:Nat}{v:AV}{k:AV→Option R}{k':AV→Prop}(hk:∀ v,k v=some r→k' v)(h:bindD env m v k=some r):qlV b v k'∧q4F b v k':=by
 refine q5Y (hk _ ?_)
 unfold bindD at h
 rw[hs] at h
 split at h
 ·
  exact h
 ·
  split at h
  ·
   unfold q5T at h
   split at h
   ·
    rename_i n
    cases n<;>exact h
   ·
    exact h
  ·
   exact h
 ·
  split at h
  ·
   exact h
  ·
   exact h
 ·
  split at h
  ·
   exact h
  ·
   exact h
theorem qnX (hs:env.o=DOps.std) {e:TypeId} {m:Nat} {ys:List (ty (env.code e))} {x1:AV} (hk:∀ σ',k σ'=some r→k' σ') (h:qna env σ dst e id m ys x1 k=some r) :
  qk1 env.to σ dst e id m ys x1 k':=by
 unfold qna at h
 unfold qk1
 split at h
 ·
  split at h
  ·
   rename_i hab
   obtain⟨h1,h2⟩:=qhK hs h
   rw[hs] at h2
   simp only[hab]
   exact⟨h1,fun zs e=>by subst e;exact hk _ h2⟩
  ·
   cases h
 ·
  split at h
  ·
   rename_i hl
   split at h
   ·
    rename_i hb hd
    obtain⟨h1,h2⟩:=qhK hs h
    rw[hs] at h2
    have hd':decEq _ (env.to.code e)=isTrue _:=hd
    simp only[hl,hb,hd']
    exact⟨h1,fun zs e=>by subst e;exact hk _ h2⟩
   ·
    cases h
  ·
   cases h
 ·
  cases h
theorem q4C (hs:env.o=DOps.std){c:Call}(hk:∀ σ',k σ'=some r→k' σ')(h:q0l env σ g dst c id k=some r):qiD env.to σ g dst c id k':=by
 unfold q0l at h
 unfold qiD
 split at h
 ·
  rename_i x1 x2 t t' ha hat
  rw[ha,hat]
  dsimp only
  split at h
  ·
   rename_i e he
   have he':qhN env.to.P t=some e:=he
   rw[he']
   dsimp only
   split at h
   ·
    cases h
   ·
    rename_i hz
    split
    ·
     rename_i hf
     exact absurd (hf.symm.trans hz) Bool.false_ne_true
    split at h
    ·
     rename_i hb
     rw[hb]
     dsimp only
     split at h
     ·
      cases h
     ·
      rename_i m ys hsr
      have hsr':q0w σ.locs (env.to.code e) (σ.ev g x2)=some (m,ys):=hsr
      rw[hsr']
      exact qnX hs hk h
    ·
     rename_i hb
     rw[hb]
     dsimp only
     split at h
     ·
      rename_i hu hx hzz
      obtain⟨h1,h2⟩:=qhK hs h
      split
      ·
       rename_i hu2 hx2 hzz2
       have e1:=hx.symm.trans hx2
       have e2:=hzz.symm.trans hzz2
       cases e1;cases e2
       exact⟨h1,qnX hs hk h2⟩
      ·
       rename_i hno
       exact(hno _ _ _ hu hx hzz).elim
     ·
      cases h
  ·
   cases h
 ·
  cases h
theorem copyD_ok (hs:env.o=DOps.std){c:Call}(hk:∀ σ',k σ'=some r→k' σ')(h:copyD env σ g dst c k=some r):qwR env.to σ g dst c k':=by
 unfold copyD at h
 unfold qwR
 rw[hs] at h
 split at h
 ·
  rename_i x1 x2 t t' ha hat
  rw[ha,hat]
  dsimp only
  split at h
  ·
   rename_i e he
   have he':qhN env.to.P t=some e:=he
   rw[he']
   dsimp only
   split at h
   ·
    rename_i hx
    rw[hx]
    dsimp only
    split at h
    ·
     rename_i ho hsr hl
     have ho':(oneT env.to.P e&&Nat.beq (szOf _) 1)=true:=ho
     rw[ho',hsr,hl]
     dsimp only
     split at h
     ·
      rename_i hd
      rw[hd]
      exact fun zs e=>by subst e;exact hk _ h
     ·
      cases h
    ·
     cases h
   ·
    cases h
  ·
   cases h
 ·
  cases h
theorem q5Z {l:List Nat}{x:AV}{bs:List (Option Blk)}{F:List Blk}(hk:∀ σ',k σ'=some r→k' σ')(h:q5U env σ dst l id k x bs F=some r):q2N env.to σ dst l id k' x bs F:=by
 unfold q5U at h
 unfold q2N
 dsimp only at h ⊢
 split at h
 ·
  rename_i h1 h2
  rw[h1,h2]
  exact hk _ h
 ·
  cases h
theorem q6a (hs:env.o=DOps.std){s:DSpec}{args:List AV}(hk:∀ σ',k σ'=some r→k' σ')(h:q5V env σ dst s args id k=some r):q6w env.to σ dst s.to args id k':=by
 unfold q5V at h
 rw[hs] at h
 unfold q6w
 dsimp only at h ⊢
 split at h
 ·
  rename_i B hB hc
  split
  ·
   rename_i B' hB' hc'
   have e:some B=some B':=hB.symm.trans hB'
   cases e
   exact⟨R,_,r,h,fun x bs F hx=>q5Z hk hx⟩
  ·
   rename_i hno
   exact(hno B hB hc).elim
 ·
  cases h
theorem callD_ok (hs:env.o=DOps.std){f:FuncId}{args:List AV}(hk:∀ σ',k σ'=some r→k' σ')(h:callD env σ dst f args id k=some r):qwQ env.to σ dst f args id k':=by
 unfold callD at h
 unfold qwQ
 dsimp only at h ⊢
 have hsp:env.to.spec f=(env.spec f).map DSpec.to:=rfl
 rw[hsp]
 split at h
 ·
  cases h
 ·
  rename_i s hf
  rw[hf]
  show (match s.own with|_::_=>_ | []=>_)
  split at h
  ·
   rename_i ho
   rw[ho]
   exact q6a hs hk h
  ·
   rename_i ho
   rw[ho]
   dsimp only
   show (match s.ro with|true=>_|false=>_)
   split at h
   ·
    rename_i hr
    rw[hr]
    dsimp only
    split at h
    ·
     rename_i hn
     rw[hn]
     rw[hs] at h
     refine⟨R,_,r,h,fun x bs F hx=>?_⟩
     split at hx
     ·
      rename_i h1 h2
      rw[h1,h2];exact hk _ hx
     ·
      cases hx
    ·
     cases h
   ·
    rename_i hr
    rw[hr]
    dsimp only
    split at h
    ·
     rename_i hn
     rw[hn]
     rw[hs] at h
     refine⟨R,_,r,h,fun x bs F hx=>?_⟩
     split at hx
     ·
      rename_i h1 h2
      rw[h1,h2];exact hk _ hx
     ·
      cases hx
    ·
     cases h
theorem q6b {o:Oper}{len:Nat}{parts:Array (Nat×Operand)}{e:TypeId}{c:Nat}(hk:∀ σ',k σ'=some r→k' σ')(h:q5W env σ g o id len parts e c k=some r):qf0 env.to σ g o id len parts e c k':=by
 unfold q5W at h
 unfold qf0
 split at h
 ·
  cases h
 ·
  rename_i hz
  split
  ·
   rename_i hf
   exact absurd (hf.symm.trans hz) Bool.false_ne_true
  dsimp only at h ⊢
  split at h
  ·
   cases h
  ·
   rename_i cs hc
   rw[hc]
   dsimp only
   split at h
   ·
    rename_i xs hx
    rw[hx]
    exact hk _ h
   ·
    cases h
theorem qu0 (hs:env.o=DOps.std){e:Bool}{p:Prop}(he:p→e=true){k:Bool→Option R}{k':Bool→Prop}(hk:∀ b,k b=some r→k' b)(h:nilD env e k=some r):∀ b:Bool,(b=true→p)→k' b:=by
 have hsame:∀ (a b:Option R),q4A a b=some r→a=some r∧b=some r:=fun a b h=>by
  unfold q4A at h
  split at h
  ·
   rename_i e;exact⟨h,e▸h⟩
  ·
   cases h
 unfold nilD at h
 rw[hs] at h
 intro b hb
 cases b with
 |true =>
  rw[he (hb rfl)] at h
  exact hk _ (hsame _ _ h).1
 |false =>
  cases e with
  |true=>exact hk _ (hsame _ _ h).2
  |false=>exact hk _ h
theorem eopD_ok (hs:env.o=DOps.std){o:Oper}(hk:∀ σ',k σ'=some r→k' σ')(h:eopD env σ g o id k=some r):eop env.to σ g o id k':=by
 unfold eopD at h
 unfold eop
 split at h
 ·
  rename_i t ho
  rw[ho]
  dsimp only
  split at h
  ·
   rename_i z hz
   rw[show qbw env.to.P t=some z from hz]
   dsimp only
   split at h
   ·
    rename_i h1 h2 h3
    rw[h1,h2,h3];exact hk _ h
   ·
    cases h
  ·
   cases h
 ·
  rename_i t x ho
  rw[ho]
  dsimp only
  split at h
  ·
   rename_i b h1 h2 h3
   split
   ·
    rename_i b' h1' h2' h3'
    cases h1.symm.trans h1'
    exact hk _ h
   ·
    rename_i hno
    exact(hno _ h1 h2 h3).elim
  ·
   cases h
 ·
  rename_i t a x ho
  rw[ho]
  dsimp only
  split at h
  ·
   cases h
  ·
   rename_i hcl
   rw[hcl]
   dsimp only at h ⊢
   split at h
   ·
    cases h
   ·
    rename_i hb
    rw[show (Nat.beq (qau (σ.ev g x)).length (qbN env.to.P t)&&Nat.blt 0 (qau (σ.ev g x)).length)=true from hb]
    dsimp only
    split at h
    ·
     rename_i i off ha
     rw[ha]
     dsimp only
     split at h
     ·
      rename_i ds hl
      rw[hl]
      dsimp only
      split at h
      ·
       rename_i hle
       rw[hle];exact hk _ h
      ·
       cases h
     ·
      rename_i c xs hl
      rw[hl]
      dsimp only
      split at h
      ·
       rename_i ys h1 h2
       rw[h1,h2]
       obtain⟨h3,h4⟩:=qhK hs h
       exact⟨h3,hk _ h4⟩
      ·
       cases h
     ·
      cases h
    ·
     rename_i c i idx off ha
     rw[ha]
     dsimp only at h ⊢
     split at h
     ·
      rename_i c' xs hl
      rw[hl]
      dsimp only
      split at h
      ·
       rename_i y h1 h2
       rw[h1,h2]
       obtain⟨h3,h4⟩:=qhK hs h
       rw[hs] at h4
       exact⟨h3,fun zs e=>by subst e;exact hk _ h4⟩
      ·
       cases h
     ·
      cases h
    ·
     cases h
 ·
  rename_i t len parts ho
  rw[ho]
  dsimp only
  split at h
  ·
   rename_i e h1 h2 h3
   rw[show qhN env.to.P t=some e from h1,h2,h3]
   exact q6b hk h
  ·
   cases h
 ·
  rename_i t len cap ho
  rw[ho]
  dsimp only
  split at h
  ·
   rename_i e n m h1 h2 h3 h4 h5
   rw[show qhN env.to.P t=some e from h1,h2,h3,h4,h5]
   dsimp only
   split at h
   ·
    rename_i z h6 h7
    rw[show qbx env.to.P e (env.to.code e)=true from h6,show qbw env.to.P e=some z from h7]
    dsimp only
    split at h
    ·
     rename_i x h8
     rw[show dec (env.to.code e) z=some x from h8]
     obtain⟨h9,h10⟩:=qhK hs h
     exact⟨h9,hk _ h10⟩
    ·
     cases h
   ·
    cases h
  ·
   cases h
 ·
  rename_i s d x ho
  rw[ho]
  dsimp only
  split at h
  ·
   rename_i e e' c i a n h1 h2 h3 h4
   rw[show env.to.P.underlying s=some _ from h1,show env.to.P.underlying d=some _ from h2,h3,h4]
   dsimp only
   split at h
   ·
    rename_i h5 h6 h7
    rw[h5,show env.to.P.underlying e'=some _ from h6,show env.to.P.underlying e=some _ from h7]
    dsimp only
    split at h
    ·
     rename_i c' xs hl
     rw[hl]
     dsimp only
     split at h
     ·
      rename_i hc
      rw[hc]
      obtain⟨h8,h9⟩:=qhK hs h
      exact⟨h8,hk _ h9⟩
     ·
      cases h
    ·
     cases h
   ·
    cases h
  ·
   cases h
 ·
  rename_i op t x y yt ho
  rw[ho]
  dsimp only
  split at h
  ·
   rename_i h1 h2 h3 h4
   rw[show env.to.P.underlying t=some _ from h1,h2,h3,h4]
   exact qu0 hs (fun e=>by rw[e];rfl) (k':=fun b=>k' (σ.put o.dst none (.bool b))) (fun b hb=>hk _ hb) h
  ·
   rename_i h1 h2 h3 h4
   rw[show env.to.P.underlying t=some _ from h1,h2,h3,h4]
   intro b hb
   have h5:=qu0 hs (fun e=>by rw[e];rfl) (k':=fun b=>k' (σ.put o.dst none (.bool !b))) (fun b hb=>hk _ hb) h (!b) (fun e=>hb (by simpa using e))
   simpa using h5
  ·
   rename_i h1 h2 h3 h4
   rw[show env.to.P.underlying t=some _ from h1,h2,h3,h4]
   exact qu0 hs (fun e=>by rw[e];rfl) (k':=fun b=>k' (σ.put o.dst none (.bool b))) (fun b hb=>hk _ hb) h
  ·
   rename_i h1 h2 h3 h4
   rw[show env.to.P.underlying t=some _ from h1,h2,h3,h4]
   intro b hb
   have h5:=qu0 hs (fun e=>by rw[e];rfl) (k':=fun b=>k' (σ.put o.dst none (.bool !b))) (fun b hb=>hk _ hb) h (!b) (fun e=>hb (by simpa using e))
   simpa using h5
  ·
   cases h
 ·
  rename_i c ho
  rw[ho]
  dsimp only
  split at h
  ·
   rename_i h1 h2
   rw[h1,h2];exact q4C hs hk h
  ·
   rename_i h1 h2
   rw[h1,h2];exact copyD_ok hs hk h
  ·
   rename_i f h1 h2
   rw[h1,h2]
   dsimp only
   split at h
   ·
    rename_i n a b h3
    rw[h3];exact callD_ok hs hk h
   ·
    cases h
  ·
   cases h
 ·
  cases h
theorem qnY:∀ (n tc:Nat) (w:Bool),All (q0x σ n tc w)→∀ g∈qwF σ n tc w,g=true
 |0,tc,w,_=>fun g hg=>by cases hg
 |n+1,tc,w,h=>by
  unfold q0x at h
  unfold qwF
  split at h
  ·
   rename_i h0
   rw[h0]
   dsimp only
   split at h
   ·
    rename_i b hb
    rw[hb]
    intro g hg
    cases hg with
    |head=>exact qdE.2 h.1.symm
    |tail _ hg=>cases hg
   ·
    rename_i h1
    split
    ·
     rename_i b hb
     exact absurd hb (h1 b)
    ·
     exact fun g hg=>by cases hg
  ·
   rename_i tc' w' h0
   rw[h0]
   dsimp only
   split at h
   ·
    rename_i b hb
    rw[hb]
    intro g hg
    cases hg with
    |head=>exact qdE.2 h.1.symm
    |tail _ hg=>exact qnY n tc' w' h.2 g hg
   ·
    rename_i h1
    split
    ·
     rename_i b hb
     exact absurd hb (h1 b)
    ·
     exact qnY n tc' w' h
theorem q6c:∀ {l:List Bool} {b:Bool},impB l b=true→(∀ g∈l,g=true)→b=true
 | [],b,h,_=>h
 |g::l,b,h,hg=>by
  have h:(!g||impB l b)=true:=h
  rw[hg g (.head _)] at h
  exact q6c h fun x hx=>hg x (.tail _ hx)
theorem q6d:∀ {l:List DP},allD l=true→conjD l
 | [],_=>trivial
 | [⟨p,d⟩],h=>by
  show p
  cases d with
  |isTrue hp=>exact hp
  |isFalse hp=>cases h
 |⟨p,d⟩::x::l,h=>by
  have h:(@decide p d&&allD (x::l))=true:=h
  simp only[Bool.and_eq_true] at h
  exact⟨of_decide_eq_true h.1,q6d h.2⟩
theorem q6e {p':Prop}{gl:List Prop}{gb:List Bool}(hg:conj gl→∀ g∈gb,g=true):∀ {l:List DP} {q:Option R},(q=some r→p')→underD DOps.std gb l q=some r→q6x gl l p'
 | [],_,hq,h=>hq h
 |p::l,q,hq,h=>⟨fun hc=>q6d (q6c (req_ok h).1 (hg hc)),hq (req_ok h).2⟩
theorem qwH {b:Bool}{x y:Option R}{p q:Prop}(h:cond b x y=some r)(hx:x=some r→p)(hy:y=some r→q):br b p q:=by
 cases b
 ·
  exact hy h
 ·
  exact hx h
theorem qrR:∀ (n tc:Nat) {k:AS→Option R} {k':AS→Prop} (hk:∀ σ',k σ'=some r→k' σ'),quz DOps.std σ n tc k=some r→qk2 σ n tc k'
 |0,tc,k,k',hk,h=>by cases h
 |n+1,tc,k,k',hk,h=>by
  unfold quz at h
  unfold qk2
  split at h
  ·
   rename_i h0
   rw[h0]
   dsimp only
   split at h
   ·
    rename_i b hb
    rw[hb];exact qwH h (hk _) (hk _)
   ·
    rename_i hb
    rw[hb];exact hk _ h
   ·
    cases h
  ·
   rename_i tc' w0 h0
   rw[h0]
   dsimp only
   refine qrR n tc' (fun σ' hk2=>?_) h
   split at hk2
   ·
    cases hk2
   ·
    rename_i tc2 w' h2
    rw[h2]
    dsimp only
    split at hk2
    ·
     cases hk2
    ·
     rename_i h3
     rw[h3]
     dsimp only
     split at hk2
     ·
      rename_i b hb
      rw[hb]
      dsimp only
      split at hk2
      ·
       rename_i hw
       rw[hw]
       dsimp only
       split at hk2
       ·
        rename_i b2 hb2
        rw[hb2];exact qwH hk2 (hk _) (hk _)
       ·
        rename_i hb2
        rw[hb2];exact hk _ hk2
       ·
        cases hk2
      ·
       rename_i hw
       rw[hw];exact hk _ hk2
     ·
      rename_i hb
      rw[hb];exact hk _ hk2
     ·
      cases hk2
theorem q6f (hs:env.o=DOps.std){o:Oper}(hk:∀ σ',k σ'=some r→k' σ')(h:runD env σ g o id k=some r):qoc env.to σ g o id k':=by
 unfold runD at h
 unfold qoc
 split at h
 ·
  rename_i pre v hp
  rw[show pop env.to.P σ g o=.ok pre v from hp]
  rw[hs] at h
  refine qwG (fun hq=>?_) h
  split at hq
  ·
   cases hq
  ·
   rename_i hc
   rw[hc]
   exact(q2G hs (fun v=>hk _) hq).1
 ·
  rename_i hp
  rw[show pop env.to.P σ g o=.bad from hp]
  exact eopD_ok hs hk h
theorem q2H {o:Oper}(hk:∀ σ',k σ'=some r→k' σ')(h:skipD σ o k=some r):qf1 σ o k':=by
 unfold skipD at h
 unfold qf1
 split at h
 ·
  cases h
 ·
  rename_i hc
  rw[hc];exact hk _ h
theorem qu1 (hs:env.o=DOps.std){all:List Oper}{o:Oper}(hk:∀ σ',k σ'=some r→k' σ')(h:oneD env all o id σ k=some r):qrr env.to all o id σ k':=by
 unfold oneD at h
 unfold qrr
 split at h
 ·
  rename_i hg
  rw[hg];exact q6f hs hk h
 ·
  rename_i j w hg
  rw[hg]
  dsimp only
  split at h
  ·
   cases h
  ·
   rename_i tc htc
   rw[htc]
   show (match pop env.to.P σ (some (tc,w)) o with|.ok pre v=>_|.bad=>_)
   split at h
   ·
    rename_i pre v hp
    rw[show pop env.to.P σ (some (tc,w)) o=.ok pre v from hp]
    rw[hs] at h
    refine q6e (fun hc=>qnY _ _ _ (all_conj hc)) (fun hq=>?_) h
    split at hq
    ·
     rename_i h1 h2
     split
     ·
      exact(q2G hs (fun v=>hk _) hq).2
     ·
      rename_i hno
      exact(hno h1 h2).elim
    ·
     cases hq
   ·
    rename_i hp
    rw[show pop env.to.P σ (some (tc,w)) o=.bad from hp]
    rw[hs] at h
    refine qrR 20 tc (fun σ' hk2=>?_) h
    split at hk2
    ·
     rename_i b hb
     rw[hb]
     dsimp only
     split at hk2
     ·
      rename_i hw
      rw[hw];exact q6f hs hk hk2
     ·
      rename_i hw
      rw[hw];exact q2H hk hk2
    ·
     rename_i hb
     split
     ·
      rename_i b hb2
      exact absurd hb2 (hb b)
     ·
      exact q2H hk hk2
theorem q6g (hs:env.o=DOps.std){all:List Oper}(hk:∀ σ',k σ'=some r→k' σ'):∀ {l:List Oper} {id:Nat} {σ:AS},opsD env all l id σ k=some r→q4G env.to all l id σ k'
 | [],_,_,h=>hk _ h
 |o::l,id,σ,h=>by
  unfold opsD at h
  unfold q4G
  exact qu1 hs (fun σ' hk2=>q6g hs hk hk2) h
theorem qwI (n:Nat)(k:Nat→Prop):qa8 n k=k n:=by cases n<;>rfl
theorem qwJ (n:Nat)(k:Nat→Option R):q5X n k=k n:=by cases n<;>rfl
theorem q6h (hs:env.o=DOps.std){ops:List Oper}{f:Nat→Oper→Option R}{f':Nat→Oper→Prop}(hf:∀ i o,f i o=some r→f' i o):∀ {l:List Nat},allO env.o ops f l=some r→allM ops f' l
 | [],h=>by cases h
 | [i],h=>by
  unfold allO at h
  unfold allM
  dsimp only at h ⊢
  split at h
  ·
   rename_i o ho
   rw[ho];exact hf _ _ h
  ·
   cases h
 |i::j::l,h=>by
  unfold allO at h
  unfold allM
  rw[hs] at h
  dsimp only at h ⊢
  have hsame:∀ (a b:Option R),q4A a b=some r→a=some r∧b=some r:=fun a b h=>by
   unfold q4A at h
   split at h
   ·
    rename_i e;exact⟨h,e▸h⟩
   ·
    cases h
  obtain⟨h1,h2⟩:=hsame _ _ h
  refine⟨?_,q6h hs hf (by rw[hs];exact h2)⟩
  split at h1
  ·
   rename_i o ho
   rw[ho];exact hf _ _ h1
  ·
   cases h1
theorem q0m (hs:env.o=DOps.std){ops:Array Oper}(hk:∀ σ',k σ'=some r→k' σ'):∀ {n m:Nat} {σ:AS},anyD env ops id n m σ k=some r→qod env.to ops id n m σ k'
 |0,m,σ,h=>by
  unfold anyD at h
  unfold qod
  split at h
  ·
   rename_i hr
   rw[hr];exact hk _ h
  ·
   cases h
 |n+1,m,σ,h=>by
  unfold anyD at h
  unfold qod
  split at h
  ·
   rename_i hr
   rw[hr];exact hk _ h
  ·
   rename_i rs hr
   split
   ·
    rename_i hr2
    exact(hr hr2).elim
   ·
    split at h
    ·
     rename_i i o hp
     rw[hp]
     refine qu1 hs (fun σ' hk2=>?_) h
     rw[qwJ] at hk2
     rw[qwI]
     exact q0m hs hk hk2
    ·
     rename_i hp
     rw[hp]
     refine q6h hs (fun i o hk1=>qu1 hs (fun σ' hk2=>?_) hk1) h
     rw[qwJ] at hk2
     rw[qwI]
     exact q0m hs hk hk2
end
end Go.Eng
