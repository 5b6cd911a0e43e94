import Derived.Test.YtcdppfnjidlknaaGreatDoorYad
set_option linter.unusedVariables false
set_option linter.unusedSimpArgs false
namespace Go.Eng
open Go
theorem inK_of {k:IntKind}{x:Int}(h:kwf k x):inK k x:=by
 cases k<;>first|trivial|exact h
theorem q69 {w:World}{im:Nat→Prop} {ρ:Ids}{b:Bool}{v:AV}{k:AV→Prop}{val:Value}(hr:Rep w im ρ val v)(h:qlV b v k):k v:=by
 unfold qlV at h
 split at h
 ·
  exact h _ rfl (inK_of hr.inv_int.2)
 ·
  exact h
theorem qnh {b:Bool}{v:AV}{k:AV→Prop}(h:q4A b v k):k v:=by
 unfold q4A at h
 split at h
 ·
  exact h _ rfl
 ·
  exact h
theorem q6A {p:Nat×Option Nat}{k:Nat→Prop}(h:forceP p k):k p.1:=h
theorem qau {n:Nat}{k:Nat→Prop}(h:qa7 n k):k n:=by cases n<;>exact h
theorem qwX {n:Int}{k:Int→Prop}(h:q6n n k):k n:=by
 cases n with
 |ofNat n=>exact qau (k:=fun m=>k (.ofNat m)) h
 |negSucc n=>exact qau (k:=fun m=>k (.negSucc m)) h
theorem qwY {b:Bool}{k:Bool→Prop}(h:q6o b k):k b:=by cases b<;>exact h
theorem qwZ:∀ {c:Nat} {x:ty c} {k:ty c→Prop},q6p c x k→k x
 |0,x,k,h=>by
  have h:qa7 (UInt8.toNat x) fun n=>k (UInt8.ofNat n):=h
  have h:=qau h
  have e:UInt8.ofNat (UInt8.toNat x)=x:=UInt8.ofNat_toNat
  exact e▸h
 |1,x,k,h=>qwX (k:=k) h
 |2,x,k,h=>by
  have h:qa7 (UInt32.toNat x) fun n=>k (UInt32.ofNat n):=h
  have h:=qau h
  have e:UInt32.ofNat (UInt32.toNat x)=x:=UInt32.ofNat_toNat
  exact e▸h
 |3,x,k,h=>by
  have h:qa7 (UInt64.toNat x) fun n=>k (UInt64.ofNat n):=h
  have h:=qau h
  have e:UInt64.ofNat (UInt64.toNat x)=x:=UInt64.ofNat_toNat
  exact e▸h
 |4,x,k,h=>qwY (k:=k) h
 |_+5,x,k,h=>h
theorem qiM {c:Nat}:∀ {xs:List (ty c)} {k:List (ty c)→Prop},qrU c xs k→k xs
 | [],k,h=>h
 |x::r,k,h=>qiM (xs:=r) (k:=fun r=>k (x::r)) (qwZ (k:=fun x=>qrU c r fun r=>k (x::r)) h)
theorem qgm {v:AV}{k:AV→Prop}(h:qu8 v k):k v:=by
 cases v with
 |int κ n=>exact qwX (k:=fun n=>k (.int κ n)) h
 |bool b=>exact qwY (k:=fun b=>k (.bool b)) h
 |sl c xs=>exact qiM (k:=fun xs=>k (.sl c xs)) h
 |iref c x o=>exact qau (k:=fun o=>k (.iref c x o)) (qwZ (k:=fun x=>qa7 o fun o=>k (.iref c x o)) h)
 |row c i o n=>exact qau (k:=fun n=>k (.row c i o n)) (qau (k:=fun o=>qa7 n fun n=>k (.row c i o n)) (qau (k:=fun i=>qa7 o fun o=>qa7 n fun n=>k (.row c i o n)) h))
 |ptr i o=>exact qau (k:=fun o=>k (.ptr i o)) (qau (k:=fun i=>qa7 o fun o=>k (.ptr i o)) h)
 |eptr c i x o=>exact qau (k:=fun o=>k (.eptr c i x o)) (qau (k:=fun x=>qa7 o fun o=>k (.eptr c i x o)) (qau (k:=fun i=>qa7 x fun x=>qa7 o fun o=>k (.eptr c i x o)) h))
 |_=>exact h
theorem qol:∀ {l:List AV} {k:List AV→Prop},qrV l k→k l
 | [],k,h=>h
 |x::r,k,h=>qol (l:=r) (k:=fun r=>k (x::r)) (qgm (k:=fun x=>qrV r fun r=>k (x::r)) h)
theorem qxa:∀ {l:List AV} {k:List AV→Prop},q6q l k→k l
 | [],k,h=>h
 |x::r,k,h=>qxa (l:=r) (k:=fun r=>k (x::r)) h
theorem qom:∀ {l:Locs} {k:Locs→Prop},qwN l k→k l
 | [],k,h=>h
 |(i,.cells cs)::r,k,h=>qom (l:=r) (k:=fun r=>k ((i,.cells cs)::r)) h
 |(i,.row c xs)::r,k,h=>qom (l:=r) (k:=fun r=>k ((i,.row c xs)::r)) h
theorem bindC_ok {lit:Bool}{l:List AV}{k:List AV→Prop}(h:bindC lit l k):k l:=by
 cases lit with
 |true=>exact qol h
 |false=>exact h
theorem qni {lit:Bool}{c:Nat}{l:List (ty c)}{k:List (ty c)→Prop}(h:q6r lit c l k):k l:=by
 cases lit with
 |true=>exact qiM h
 |false=>exact h _ rfl
theorem quM {lit:Bool}{c:Nat}{l:List (ty c)}{k:List (ty c)→Prop}(h:bindY lit c l k):k l:=by
 cases lit with
 |true=>exact qiM h
 |false=>exact h
theorem bindE_ok {w:World}{im:Nat→Prop} {ρ:Ids}{lit b:Bool}{v:AV}{k:AV→Prop}{val:Value}(hr:Rep w im ρ val v)(h:qu9 lit b v k):k v:=by
 cases lit with
 |true=>exact qgm h
 |false=>exact q69 hr h
theorem qsa {lit:Bool}{v:AV}{k:AV→Prop}(h:qu9 lit false v k):k v:=by
 cases lit with
 |true=>exact qgm h
 |false =>
  have h:qlV false v k:=h
  unfold qlV at h
  exact h
theorem q2V {w:World}{im:Nat→Prop} {ρ:Ids}{m:Nat}{lit b:Bool}{v:AV}{k:AV→Prop}{val:Value}(hr:Rep w im ρ val v)(h:bindM m lit b v k):k v:=by
 unfold bindM at h
 split at h
 ·
  exact bindE_ok hr h
 ·
  exact qgm h
 ·
  unfold q6s at h
  split at h
  ·
   rename_i κ e
   obtain⟨⟨h0,h1⟩,h2,h3⟩:=h
   by_cases he:e=0
   ·
    subst he;exact h2 rfl
   ·
    obtain rfl:e=1:=by omega
    exact h3 rfl
  ·
   exact h
theorem qcL {lit:Bool}{p q:Prop} [d:Decidable p](h:and1 lit p q):p∧q:=by
 cases lit with
 |true =>
  cases d with
  |isTrue hp=>exact⟨hp,h⟩
  |isFalse hp=>exact h.elim
 |false=>exact h
theorem quN {lit:Bool}:∀ {l:List DP} {q:Prop},andE lit l q→AllD l∧q
 | [],q,h=>by cases lit<;>exact⟨trivial,h⟩
 |⟨p,d⟩::r,q,h=>by
  cases lit with
  |true =>
   cases d with
   |isTrue hp =>
    have:=quN (lit:=true) (l:=r) h
    exact⟨⟨hp,this.1⟩,this.2⟩
   |isFalse hp=>exact h.elim
  |false =>
   have:=quN (lit:=false) (l:=r) h.2
   exact⟨⟨h.1,this.1⟩,this.2⟩
theorem quO {env:Env} {σ:AS}{k:AS→Prop}(h:q6w env σ k):k σ.drop:=by
 unfold q6w at h
 split at h
 ·
  exact qom (k:=fun L=>k ⟨σ.drop.slots,[],L⟩) (qxa (k:=fun sl=>qwN σ.drop.locs fun L=>k ⟨sl,[],L⟩) h)
 ·
  exact h
section
variable {w : World} {im : Nat → Prop} {ρ : Ids}
theorem qxb {n:Int}(h:kwf .u8 n):((UInt8.ofNat n.toNat).toNat:Int)=n:=by
 simp[kwf,IntKind.min,IntKind.max,IntKind.signed,IntKind.bits] at h
 simp
 omega
theorem qon {n:Int}(h:kwf .u32 n):((UInt32.ofNat n.toNat).toNat:Int)=n:=by
 simp[kwf,IntKind.min,IntKind.max,IntKind.signed,IntKind.bits] at h
 simp
 omega
theorem kwf_u64 {n:Int}(h:kwf .u64 n):((UInt64.ofNat n.toNat).toNat:Int)=n:=by
 simp[kwf,IntKind.min,IntKind.max,IntKind.signed,IntKind.bits] at h
 simp
 omega
theorem qcM {v:Value}{a:AV}{b:List UInt8}(h:qhN a=some b)(hr:Rep w im ρ v a):Rep w im qai v (.sl 0 b):=by
 unfold qhN at h
 split at h
 ·
  simp only[Option.some.injEq] at h;subst h
  cases hr with
  |sl0=>exact .sl0
  |emp=>exact .emp
  |sl hb hn hcap hm vals hcell hone hrep=>exact .sl hb hn hcap hm vals hcell hone hrep
 ·
  simp only[Option.some.injEq] at h;subst h
  cases hr.inv_nilsl
  exact .sl0
 ·
  cases h
theorem qsb {v:Value}{a:AV}{b:List Int}(h:q2K a=some b)(hr:Rep w im ρ v a):Rep w im qai v (.sl 1 b):=by
 unfold q2K at h
 split at h
 ·
  simp only[Option.some.injEq] at h;subst h
  cases hr with
  |sl0=>exact .sl0
  |emp=>exact .emp
  |sl hb hn hcap hm vals hcell hone hrep=>exact .sl hb hn hcap hm vals hcell hone hrep
 ·
  simp only[Option.some.injEq] at h;subst h
  cases hr.inv_nilsl
  exact .sl0
 ·
  cases h
theorem q4H {v:Value}{a:AV}{b:List Msg}(h:q6j a=some b)(hr:Rep w im ρ v a):Rep w im qai v (.sl 8 b):=by
 unfold q6j at h
 split at h
 ·
  simp only[Option.some.injEq] at h;subst h
  cases hr with
  |sl0=>exact .sl0
  |emp=>exact .emp
  |sl hb hn hcap hm vals hcell hone hrep=>exact .sl hb hn hcap hm vals hcell hone hrep
 ·
  simp only[Option.some.injEq] at h;subst h
  cases hr.inv_nilsl
  exact .sl0
 ·
  cases h
theorem qak {v:Value}{k:IntKind}{n:Int}(hr:Rep w im ρ v (.int k n)):Rep w im qai v (.int k n):=by
 obtain⟨rfl,h⟩:=hr.inv_int;exact .int h
theorem qbB {v:Value}{b:Bool}(hr:Rep w im ρ v (.bool b)):Rep w im qai v (.bool b):=by rw[hr.inv_bool];exact .bool
theorem quP {v:Value}{b:List UInt8}{nb n:Nat}(hr:Rep w im ρ v (.both (.sl 0 b) (.wsl nb n))):Rep w im qai v (.both (.sl 0 b) (.wsl nb b.length)):=by
 cases hr with
 |both h h' =>
  have e:n=b.length:=by
   cases h' with
   |wsl hn hm h0 hh=>cases h<;>simp_all
  subst e
  exact .both h h'
theorem qaG {c:Nat}{x:AV}{b:List (ty c)} {ρ:Ids}{v:Value}(h:asL c x=some b)(hr:Rep w im ρ v x):Rep w im qai v (.sl c b):=by
 unfold asL at h
 split at h
 ·
  split at h
  ·
   rename_i e _
   subst e
   cases h
   cases hr with
   |sl0=>exact .sl0
   |emp=>exact .emp
   |sl hb hn hcap hm vals hcell hone hrep=>exact .sl hb hn hcap hm vals hcell hone hrep
  ·
   cases h
 ·
  cases h
  rw[hr.inv_nilsl];exact .sl0
 ·
  cases h
theorem q6B:∀ (c:Nat) (l:List AV) (x:ty c),dec0 c l=some x→l.length=szOf c∧∀ (j:Nat) (v:Value),j<szOf c→Rep w im ρ v (nth l j)→Rep w im qai v (nth (enc c x) j):=by
 intro c l x h
 unfold dec0 at h
 split at h
 ·
  simp only[Option.some.injEq] at h;subst h
  refine⟨rfl,fun j v hj hr=>?_⟩
  have:j=0:=by simp[szOf] at hj;exact hj
  subst this
  simp only[nth] at hr
  obtain⟨rfl,hk⟩:=hr.inv_int
  simp only[enc,nth,qxb hk];exact .int hk
 ·
  simp only[Option.some.injEq] at h;subst h
  refine⟨rfl,fun j v hj hr=>?_⟩
  have:j=0:=by simp[szOf] at hj;exact hj
  subst this
  exact qak hr
 ·
  simp only[Option.some.injEq] at h;subst h
  refine⟨rfl,fun j v hj hr=>?_⟩
  have:j=0:=by simp[szOf] at hj;exact hj
  subst this
  simp only[nth] at hr
  obtain⟨rfl,hk⟩:=hr.inv_int
  simp only[enc,nth,qon hk];exact .int hk
 ·
  simp only[Option.some.injEq] at h;subst h
  refine⟨rfl,fun j v hj hr=>?_⟩
  have:j=0:=by simp[szOf] at hj;exact hj
  subst this
  simp only[nth] at hr
  obtain⟨rfl,hk⟩:=hr.inv_int
  simp only[enc,nth,kwf_u64 hk];exact .int hk
 ·
  simp only[Option.some.injEq] at h;subst h
  refine⟨rfl,fun j v hj hr=>?_⟩
  have:j=0:=by simp[szOf] at hj;exact hj
  subst this
  simp only[nth] at hr
  cases hr.inv_bool
  exact .bool
 ·
  simp only[Option.some.injEq] at h;subst h
  refine⟨rfl,fun j v hj hr=>?_⟩
  have:j=0:=by simp[szOf] at hj;exact hj
  subst this
  simp only[nth] at hr
  obtain⟨rfl,hk⟩:=hr.inv_str
  exact .str hk
 ·
  refine⟨rfl,fun j v hj hr=>?_⟩
  have:j=0:=by simp[szOf] at hj;exact hj
  subst this
  exact qcM h hr
 ·
  refine⟨rfl,fun j v hj hr=>?_⟩
  have:j=0:=by simp[szOf] at hj;exact hj
  subst this
  exact qsb h hr
 ·
  split at h
  ·
   rename_i b hb
   simp only[Option.some.injEq] at h;subst h
   refine⟨rfl,fun j v hj hr=>?_⟩
   match j,hj with
   |0,_ =>
    simp only[nth] at hr
    obtain⟨rfl,hk⟩:=hr.inv_int
    simp only[enc,nth,qxb hk];exact .int hk
   |1,_ =>
    simp only[nth] at hr
    obtain⟨rfl,hk⟩:=hr.inv_int
    simp only[enc,nth,qon hk];exact .int hk
   |2,_=>exact qcM hb hr
  ·
   cases h
 ·
  split at h
  ·
   rename_i b hb
   simp only[Option.some.injEq] at h;subst h
   refine⟨rfl,fun j v hj hr=>?_⟩
   match j,hj with
   |0,_=>exact qak hr
   |1,_=>exact qcM hb hr
  ·
   cases h
 ·
  split at h
  ·
   rename_i b hb
   simp only[Option.some.injEq] at h;subst h
   refine⟨rfl,fun j v hj hr=>?_⟩
   match j,hj with
   |0,_=>exact qak hr
   |1,_=>exact qak hr
   |2,_=>exact qsb hb hr
  ·
   cases h
 ·
  refine⟨rfl,fun j v hj hr=>?_⟩
  have:j=0:=by simp[szOf] at hj;exact hj
  subst this
  exact q4H h hr
 ·
  simp only[Option.some.injEq] at h;subst h
  refine⟨rfl,fun j v hj hr=>?_⟩
  match j,hj with
  |0,_ =>
   simp only[nth] at hr
   obtain⟨rfl,hk⟩:=hr.inv_int
   simp only[enc,nth,qxb hk];exact .int hk
  |1,_ =>
   simp only[nth] at hr
   obtain⟨rfl,hk⟩:=hr.inv_int
   simp only[enc,nth,qon hk];exact .int hk
  |2,_=>exact quP hr
 ·
  simp only[Option.some.injEq] at h;subst h
  refine⟨rfl,fun j v hj hr=>?_⟩
  match j,hj with
  |0,_=>exact qak hr
  |1,_=>exact quP hr
 ·
  simp only[Option.some.injEq] at h;subst h
  refine⟨rfl,fun j v hj hr=>?_⟩
  have:j=0:=by simp[szOf] at hj;exact hj
  subst this
  exact quP hr
 ·
  simp only[Option.some.injEq] at h;subst h
  refine⟨rfl,fun j v hj hr=>?_⟩
  match j,hj with
  |0,_=>exact qak hr
  |1,_=>exact qak hr
  |2,_=>exact qak hr
 ·
  simp only[Option.some.injEq] at h;subst h
  refine⟨rfl,fun j v hj hr=>?_⟩
  match j,hj with
  |0,_=>exact qak hr
  |1,_=>exact qak hr
  |2,_=>exact qak hr
  |3,_=>exact qak hr
  |4,_=>exact qbB hr
 ·
  simp only[Option.some.injEq] at h;subst h
  refine⟨rfl,fun j v hj hr=>?_⟩
  match j,hj with
  |0,_=>exact qak hr
  |1,_=>exact qak hr
  |2,_=>exact qak hr
  |3,_=>exact qak hr
 ·
  simp only[Option.some.injEq] at h;subst h
  refine⟨rfl,fun j v hj hr=>?_⟩
  match j,hj with
  |0,_=>exact qak hr
  |1,_=>exact qak hr
  |2,_=>exact qak hr
 ·
  simp only[Option.some.injEq] at h;subst h
  refine⟨rfl,fun j v hj hr=>?_⟩
  match j,hj with
  |0,_=>exact qbB hr
  |1,_=>exact qbB hr
  |2,_=>exact qak hr
 ·
  simp only[Option.some.injEq] at h;subst h
  refine⟨rfl,fun j v hj hr=>?_⟩
  match j,hj with
  |0,_=>exact qbB hr
  |1,_=>exact qak hr
  |2,_=>exact qak hr
  |3,_=>exact qak hr
  |4,_=>exact qak hr
 ·
  simp only[Option.some.injEq] at h;subst h
  refine⟨rfl,fun j v hj hr=>?_⟩
  match j,hj with
  |0,_=>exact qbB hr
  |1,_=>exact qak hr
  |2,_=>exact qak hr
  |3,_=>exact qbB hr
  |4,_=>exact qak hr
 ·
  split at h
  ·
   rename_i b0 b2 hb0 hb2
   simp only[Option.some.injEq] at h;subst h
   refine⟨rfl,fun j v hj hr=>?_⟩
   match j,hj with
   |0,_=>exact qcM hb0 hr
   |1,_=>exact qak hr
   |2,_=>exact qcM hb2 hr
   |3,_=>exact qbB hr
   |4,_=>exact qak hr
   |5,_=>exact qak hr
   |6,_=>exact qbB hr
  ·
   cases h
 ·
  cases h
theorem q03:∀ (c:Nat) (l:List AV) (x:ty c),c≠27→dec c l=some x→l.length=szOf c∧∀ (j:Nat) (v:Value),j<szOf c→Rep w im ρ v (nth l j)→Rep w im qai v (nth (enc c x) j):=by
 intro c l x hc h
 unfold dec at h
 split at h
 ·
  unfold q0o at h
  split at h
  case h_2=>cases h
  split at h
  ·
   rename_i b1 b2 b3 b4 b5 b11 h1 h2 h3 h4 h5 h11
   simp only[Option.some.injEq] at h;subst h
   refine⟨rfl,fun j v hj hr=>?_⟩
   match j,hj with
   |0,_=>exact qak hr
   |1,_=>exact qaG h1 hr
   |2,_=>exact qaG h2 hr
   |3,_=>exact qaG h3 hr
   |4,_=>exact qaG h4 hr
   |5,_=>exact qaG h5 hr
   |6,_=>exact qak hr
   |7,_=>exact qak hr
   |8,_=>exact qak hr
   |9,_=>exact qak hr
   |10,_=>exact qak hr
   |11,_=>exact qaG h11 hr
  ·
   cases h
 ·
  unfold q6k at h
  split at h
  case h_2=>cases h
  split at h
  ·
   rename_i b0 b1 b12 b15 b17 b18 b19 b23 b24 b25 h0 h1 h12 h15 h17 h18 h19 h23 h24 h25
   simp only[Option.some.injEq] at h;subst h
   refine⟨rfl,fun j v hj hr=>?_⟩
   match j,hj with
   |0,_=>exact qaG h0 hr
   |1,_=>exact qaG h1 hr
   |2,_=>exact qak hr
   |3,_=>exact qbB hr
   |4,_=>exact qak hr
   |5,_=>exact qak hr
   |6,_=>exact qbB hr
   |7,_=>exact qak hr
   |8,_=>exact qak hr
   |9,_=>exact qbB hr
   |10,_=>exact qak hr
   |11,_=>exact qak hr
   |12,_=>exact qaG h12 hr
   |13,_=>exact qak hr
   |14,_=>exact qak hr
   |15,_=>exact qaG h15 hr
   |16,_=>exact qak hr
   |17,_=>exact qaG h17 hr
   |18,_=>exact qaG h18 hr
   |19,_=>exact qaG h19 hr
   |20,_=>exact qak hr
   |21,_=>exact qak hr
   |22,_=>exact qak hr
   |23,_=>exact qaG h23 hr
   |24,_=>exact qaG h24 hr
   |25,_=>exact qaG h25 hr
   |26,_=>exact qak hr
   |j+27,hj=>exact absurd (show j+27<27 from hj) (by omega)
  ·
   cases h
 ·
  exact absurd rfl hc
 ·
  exact q6B _ _ _ h
theorem nthA (l m:List AV)(j:Nat):nth (l++m) j=if j<l.length then nth l j else nth m (j-l.length):=by
 rw[qao,List.getElem?_append]
 split
 ·
  rw[qao]
 ·
  rw[qao]
theorem nthTk (l:List AV)(n j:Nat)(h:j<n):nth (l.take n) j=nth l j:=by rw[qao,qao,List.getElem?_take,if_pos h]
theorem nthDr (l:List AV)(n j:Nat):nth (l.drop n) j=nth l (n+j):=by rw[qao,qao,List.getElem?_drop]
theorem qhC:∀ (c:Nat) (l:List AV) (x:ty c),dec c l=some x→l.length=szOf c∧∀ (j:Nat) (v:Value),j<szOf c→Rep w im ρ v (nth l j)→Rep w im qai v (nth (enc c x) j):=by
 intro c l x h
 rcases Nat.decEq c 27 with hc|hc
 ·
  exact q03 c l x hc h
 ·
  subst hc
  have h:qu6 l=some x:=h
  unfold qu6 at h
  split at h
  ·
   rename_i s o i a0 a1 a2 a3 a4 h1 h2 h3 h4
   split at h
   ·
    rename_i b0 b1 b2 b3 b4 g0 g1 g2 g3 g4
    simp only[Option.some.injEq] at h;subst h
    obtain⟨-,p1⟩:=q03 (w:=w) (im:=im) (ρ:=ρ) 25 _ s (by decide) h1
    obtain⟨-,p2⟩:=q03 (w:=w) (im:=im) (ρ:=ρ) 26 _ o (by decide) h2
    obtain⟨-,p3⟩:=q6B (w:=w) (im:=im) (ρ:=ρ) 24 _ i h3
    have hl:l.length=51:=by
     have:=congrArg List.length h4
     simp only[List.length_drop,List.length_cons,List.length_nil] at this
     omega
    refine⟨hl,fun j v hj hr=>?_⟩
    show Rep w im qai v (nth (enc 25 s++(enc 26 o++(enc 24 i++[.sl 9 b0,.sl 21 b1,.sl 0 b2,.sl 0 b3,.sl 0 b4]))) j)
    rw[nthA,qbL,show szOf 25=12 from rfl]
    split
    ·
     rename_i hj1
     exact p1 j v hj1 (by rw[nthTk _ _ _ hj1];exact hr)
    rename_i hj1
    rw[nthA,qbL,show szOf 26=27 from rfl]
    split
    ·
     rename_i hj2
     exact p2 (j-12) v hj2 (by rw[nthTk _ _ _ hj2,nthDr,show 12+(j-12)=j by omega];exact hr)
    rename_i hj2
    rw[nthA,qbL,show szOf 24=7 from rfl]
    split
    ·
     rename_i hj3
     exact p3 (j-12-27) v hj3 (by rw[nthTk _ _ _ hj3,nthDr,show 39+(j-12-27)=j by omega];exact hr)
    rename_i hj3
    have hr:Rep w im ρ v (nth [a0,a1,a2,a3,a4] (j-12-27-7)):=by
     rw[← h4,nthDr,show 46+(j-12-27-7)=j by omega];exact hr
    have hj4:j-12-27-7<5:=by
     have:j<51:=hj
     omega
    generalize j-12-27-7=q at hr hj4 ⊢
    match q,hj4 with
    |0,_=>exact qaG g0 hr
    |1,_=>exact qaG g1 hr
    |2,_=>exact qaG g2 hr
    |3,_=>exact qaG g3 hr
    |4,_=>exact qaG g4 hr
   ·
    cases h
  ·
   cases h
theorem qiN (c:Nat)(hpos:0<szOf c):∀ (n:Nat) (cs:List AV) (xs:List (ty c)),qhA c n cs=some xs→cs.length=xs.length*szOf c ∧
  ∀ (i j:Nat) (x:ty c) (v:Value),xs[i]? = some x→j<szOf c→Rep w im ρ v (nth cs (i*szOf c+j))→Rep w im qai v (nth (enc c x) j)
 |0,_,_,h=>by cases h
 |n+1,[],xs,h=>by
  simp only[qhA,Option.some.injEq] at h
  subst h
  exact⟨by simp,fun i j x v hx=>by simp at hx⟩
 |n+1,a::r,xs,h=>by
  simp only[qhA] at h
  split at h
  ·
   rename_i x ys hx hys
   simp only[Option.some.injEq] at h
   subst h
   obtain⟨h1,h2⟩:=qhC (w:=w) (im:=im) (ρ:=ρ) c _ x hx
   obtain⟨h3,h4⟩:=qiN c hpos n _ ys hys
   rw[qcw,List.length_take] at h1
   rw[qcx,List.length_drop] at h3
   refine⟨by rw[List.length_cons (as:=ys),Nat.add_mul,Nat.one_mul];omega,fun i j y v hy hj hr=>?_⟩
   cases i with
   |zero =>
    simp only[List.getElem?_cons_zero,Option.some.injEq] at hy
    subst hy
    refine h2 j v hj ?_
    rw[qne _ _ _ hj]
    simpa using hr
   |succ i =>
    simp only[List.getElem?_cons_succ] at hy
    refine h4 i j y v hy hj ?_
    rw[qnf]
    have e:szOf c+(i*szOf c+j)=(i+1)*szOf c+j:=by rw[Nat.add_mul,Nat.one_mul];omega
    rw[e];exact hr
  ·
   cases h
end
structure SA (w0:World) (bor:Bor) (im0 im:Nat→Prop) (ρ:Ids) (σ:AS) (a:Act) (w:World):Prop where
 st:St w0 bor im0 im ρ σ.slots σ.gs (lget σ.locs) a w
 uniq:Uniq σ.locs
theorem qaJ {L:Locs}{i:Nat}(h:qb8 L i=true):lget L i=none:=by
 unfold qb8 at h
 split at h
 ·
  assumption
 ·
  cases h
theorem qbi {L:Locs}{i:Nat}(h:qb8 L i=true):900≤i:=by
 unfold qb8 at h
 split at h
 ·
  exact Nat.le_of_ble_eq_true h
 ·
  cases h
section
variable {w0 : World} {bor : Bor} {im0 im : Nat → Prop} {ρ : Ids} {σ : AS} {a : Act} {w : World}
theorem SA.put (h:SA w0 bor im0 im ρ σ a w) {dst:Option Tmp} (hc:σ.clash dst=false) {v:Value} {av:AV} (hr:Rep w im ρ v av) :
  SA w0 bor im0 im ρ (σ.put dst none av) (a.put dst v) w:=by
 have e:(σ.put dst none av).locs=σ.locs:=by cases dst<;>rfl
 exact⟨by rw[e];exact h.st.put hc hr,by rw[e];exact h.uniq⟩
theorem SA.putG (h:SA w0 bor im0 im ρ σ a w) {dst:Option Tmp} (hc:σ.clash dst=false) {tc:Nat} {wt:Bool} (hd:∀ d,dst=some d→d≠tc) {v:Value} {av:AV}
  (h1:a.tmps[tc]? = some (.bool wt)→Rep w im ρ v av) (h2:a.tmps[tc]?≠some (.bool wt)→v=undef):SA w0 bor im0 im ρ (σ.put dst (some (tc,wt)) av) (a.put dst v) w:=by
 have e:(σ.put dst (some (tc,wt)) av).locs=σ.locs:=by cases dst<;>rfl
 exact⟨by rw[e];exact h.st.putG hc hd h1 h2,by rw[e];exact h.uniq⟩
theorem SA.ev (h:SA w0 bor im0 im ρ σ a w){g:Gd}(hg:GdOK a g)(x:Operand):Rep w im ρ (a.eval x) (σ.ev g x):=qwR h.st.len h.st.slot hg x
theorem SA.new (h:SA w0 bor im0 im ρ σ a w) {id:Nat} (hid:lget σ.locs id=none) (hge:900≤id) {cur:Array Value} {e:TypeId} {blk:Blk} {m:Nat}
  (hB:BRep (w.alloc (.cells cur e)) im ρ (some w.heap.size,m) blk) :
  SA w0 bor im0 im (upd ρ id (some (some w.heap.size,m))) (σ.new id blk) a (w.alloc (.cells cur e)):=by
 have h1:St w0 bor im0 im ρ σ.slots σ.gs (lget σ.locs) a (w.alloc (.cells cur e)) :=
  h.st.world (fun b hb=>RowKit.Below.heap_alloc w _ b hb) rfl rfl rfl (by simp)
 refine⟨?_,h.uniq.cons hid blk⟩
 show St w0 bor im0 im _ σ.slots σ.gs (lget ((id,blk)::σ.locs)) a _
 rw[qdK]
 refine h1.add hid hge hB (fun b hb=>?_)
 simp only[Option.some.injEq] at hb
 subst hb
 refine⟨fun hb=>?_,fun j m' hj=>?_,.inl h.st.size⟩
 ·
  have:=h.st.imlt _ hb;omega
 ·
  have:=h.st.rholt hj;omega
theorem qbk {α:Type}(f:Nat→Option α)(i:Nat)(x:Option α):upd f i x i=x:=by simp[upd]
theorem SA.alloc_rep (h:SA w0 bor im0 im ρ σ a w){v:Value}{av:AV}(hr:Rep w im ρ v av)(o:Obj):Rep (w.alloc o) im ρ v av :=
 hr.stable (fun b hb=>RowKit.Below.heap_alloc w _ b (h.st.imlt b hb)) (fun _ h=>h) (fun _ _ h=>h) (fun i b m hi=>qbj (RowKit.Below.heap_alloc w _ b (h.st.rholt hi)))
theorem qoo (w:World)(o:Obj):(w.alloc o).heap[w.heap.size]? = some o:=by
 show (w.heap.push o)[w.heap.size]? = _
 simp
theorem SA.cells (h:SA w0 bor im0 im ρ σ a w) {cs:List AV} {cur:Array Value} (hc:CRep w im ρ cur cs) (t:TypeId) :
  BRep (w.alloc (.cells cur t)) im ρ (some w.heap.size,0) (.cells cs) :=
 ⟨w.heap.size,cur,t,rfl,qoo w _,hc.1,hc.2.1,fun j v hj=>h.alloc_rep (hc.2.2 j v hj) _⟩
theorem SA.row (h:SA w0 bor im0 im ρ σ a w) {c:Nat} {xs:List (ty c)} {cur:Array Value} (cap:Nat) (h1:cur.size=cap*szOf c) (h2:xs.length≤cap) (h3:cap≤maxLen)
  (hone:∀ (j:Nat) (v:Value),cur[j]? = some v→v.oneCell'=true)
  (hr:∀ (i j:Nat) (x:ty c) (v:Value),xs[i]? = some x→j<szOf c→cur[i*szOf c+j]? = some v→Rep w im qai v (nth (enc c x) j)) (t:TypeId) :
  BRep (w.alloc (.cells cur t)) im ρ (some w.heap.size,xs.length) (.row c xs) :=
 ⟨rfl,.inr ⟨w.heap.size,cur,t,cap,rfl,qoo w _,h1,h2,h3,hone,fun i j x v hx hj hv =>
  (hr i j x v hx hj hv).stable (fun b hb=>RowKit.Below.heap_alloc w _ b (h.st.imlt b hb)) (fun _ h=>h) (fun _ _ h=>h) (fun _ _ _ hi=>by simp[qai] at hi)⟩⟩
theorem SA.rowDec (h:SA w0 bor im0 im ρ σ a w) {c:Nat} (hpos:0<szOf c) {xs:List (ty c)} {cs:List AV} {cur:Array Value} (hc:CRep w im ρ cur cs) {n:Nat} (hd:qhA c n cs=some xs) (hm:xs.length≤maxLen) (t:TypeId) :
  BRep (w.alloc (.cells cur t)) im ρ (some w.heap.size,xs.length) (.row c xs):=by
 obtain⟨h1,h2⟩:=qiN (w:=w) (im:=im) (ρ:=ρ) c hpos n cs xs hd
 exact h.row xs.length (by rw[hc.1,h1]) (Nat.le_refl _) hm hc.2.1 (fun i j x v hx hj hv=>h2 i j x v hx hj (hc.2.2 _ v hv)) t
theorem SA.newVar (h:SA w0 bor im0 im ρ σ a w) {env:Env} {t:TypeId} {cs:List AV} {blk:Blk} {cur:Array Value} (hb:qdI env t cs=some blk) (hc:CRep w im ρ cur cs) :
  ∃ m,BRep (w.alloc (.cells cur t)) im ρ (some w.heap.size,m) blk:=by
 unfold qdI at hb
 split at hb
 ·
  rename_i n e ht
  dsimp only at hb
  split at hb
  ·
   rename_i hsz
   obtain⟨i,-,-,hpos⟩:=qaw hsz
   split at hb
   ·
    rename_i xs hxs
    split at hb
    ·
     rename_i hm
     simp only[Option.some.injEq] at hb
     subst hb
     exact⟨_,h.rowDec hpos hc hxs (Nat.le_of_ble_eq_true hm) t⟩
    ·
     cases hb
   ·
    cases hb
  ·
   split at hb
   ·
    simp only[Option.some.injEq] at hb
    subst hb
    exact⟨0,h.cells hc t⟩
   ·
    cases hb
 ·
  simp only[Option.some.injEq] at hb
  subst hb
  exact⟨0,h.cells hc t⟩
theorem qiO (w:World)(o:Obj):Agr w (w.alloc o):=.of_heap (by simp) fun b hb=>RowKit.Below.heap_alloc w _ b hb
abbrev Then (lf:FuncId→Bool)(w:World)(o:Oper)(w0:World)(bor:Bor)(im0:Nat→Prop)(k:AS→Prop)(next:Act→World→Prop):Prop :=
 ∀ σ' a' w' im' ρ',k σ'→SA w0 bor im0 im' ρ' σ' a' w'→(qcH lf o.op=true→Agr w w')→next a' w'
theorem qaN {P:Program} {o:Oper} {next:Act→World→Prop} {Q:Exit→Act→World→Prop} {v:Value} {w':World}
  (h:(execOp a.eval o).run P w=.ok (.value v) w') (hn:next (a.put o.dst v) w'):o.wp P a w next Q:=by
 unfold Oper.wp;rw[h];exact hn
theorem qgn {P:Program} {o:Oper} {next:Act→World→Prop} {Q:Exit→Act→World→Prop} {w':World}
  (h:(execOp a.eval o).run P w=.ok .skip w') (hn:next (a.put o.dst undef) w'):o.wp P a w next Q:=by
 unfold Oper.wp;rw[h];exact hn
theorem qaW:Rep w im ρ undef (.tup []):=.tup rfl (by simp)
theorem q04 {env:Env} (h:SA w0 bor im0 im ρ σ a w) {o:Oper} {t:TypeId} (ho:o.op=.alloc t) {id:Nat} {k:AS→Prop} {next:Act→World→Prop} {Q:Exit→Act→World→Prop} {g:Gd}
  (hv:eop env σ g o id k) (hn:Then (qb9 env) w o w0 bor im0 k next):o.wp env.P a w next Q:=by
 unfold eop at hv
 rw[ho] at hv
 dsimp only at hv
 split at hv
 ·
  rename_i z hz
  split at hv
  ·
   rename_i b hb hab hcl
   obtain⟨zv,hzr,hzc⟩:=qdJ (w:=w) (im:=im) (ρ:=ρ) hz
   obtain⟨m,hB⟩:=h.newVar hb hzc
   have h1:=h.new (qaJ hab) (qbi hab) hB
   refine qaN (v:=.pointer (some ⟨w.heap.size,0,none⟩)) (w':=w.alloc (.cells zv.cells t)) ?_ (hn _ _ _ _ _ hv (h1.put hcl (.ptr (qbk _ _ _))) fun _=>qiO _ _)
   simp[execOp,ho,Instr.alloc,hzr,Go.newVar,newRow]
  ·
   exact hv.elim
 ·
  exact hv.elim
theorem q6C {env:Env} (h:SA w0 bor im0 im ρ σ a w) {o:Oper} {t:TypeId} {x:Operand} (ho:o.op=.box t x) {id:Nat} {k:AS→Prop} {next:Act→World→Prop} {Q:Exit→Act→World→Prop} {g:Gd}
  (hg:GdOK a g) (hv:eop env σ g o id k) (hn:Then (qb9 env) w o w0 bor im0 k next):o.wp env.P a w next Q:=by
 unfold eop at hv
 rw[ho] at hv
 dsimp only at hv
 split at hv
 ·
  rename_i b hb hab hcl
  split at hb
  ·
   rename_i hlt
   have hlt:0<(qat (σ.ev g x)).length:=by simpa [Nat.blt,Nat.succ_le_iff] using hlt
   have hc:=qf1 (h.ev hg x) hlt
   obtain⟨m,hB⟩:=h.newVar hb hc
   have h1:=h.new (qaJ hab) (qbi hab) hB
   refine qaN (v:=.pointer (some ⟨w.heap.size,0,none⟩)) (w':=w.alloc (.cells (a.eval x).cells t)) ?_ (hn _ _ _ _ _ hv (h1.put hcl (.ptr (qbk _ _ _))) fun _=>qiO _ _)
   simp[execOp,ho,Instr.box,Go.newVar,newRow]
  ·
   cases hb
 ·
  exact hv.elim
theorem SA.freeze (h:SA w0 bor im0 im ρ σ a w)(i:Nat):∃ im' ρ',SA w0 bor im0 im' ρ' (σ.freeze i) a w∧(∀ b,im b→im' b)∧(∀ j,lget σ.locs j=none→lget (σ.freeze i).locs j=none) ∧
  (∀ v av,Rep w im ρ v av→Rep w im' ρ' v (match lget σ.locs i with|some (.row c xs)=>frz i c xs av|_=>av)) ∧
  (∀ j,lget (σ.freeze i).locs j≠none→ρ' j=ρ j):=by
 unfold AS.freeze
 split
 ·
  rename_i c xs hl
  obtain⟨ob,h1,hB⟩:=h.st.blk i _ hl
  have hs:=h.st.freeze hl h1
  refine⟨fun b=>im b∨ob.1=some b,upd ρ i none,⟨?_,(h.uniq.ldel i).lmap _⟩,fun _ hb=>Or.inl hb,fun j hj=>?_,fun v av hr=>?_,fun j hj=>?_⟩
  ·
   have e:lget (lmap (frzL i c xs) (ldel σ.locs i))=fun j=>if j=i then none else (lget σ.locs j).map (Blk.map (frzL i c xs)):=by
    funext j
    rw[qbh,qcJ h.uniq]
    split<;>rfl
   show St w0 bor im0 _ _ _ _ (lget (lmap (frzL i c xs) (ldel σ.locs i))) a w
   rw[e]
   exact hs
  ·
   show lget (lmap (frzL i c xs) (ldel σ.locs i)) j=none
   rw[qbh,qcJ h.uniq]
   split
   ·
    rfl
   ·
    rw[hj];rfl
  ·
   rw[hl]
   show Rep w (fun b=>im b∨ob.1=some b) (upd ρ i none) v (frz i c xs av)
   exact hr.frz i hB.closed (fun _ h=>.inl h) (fun _ h=>.inr h) (fun x hx=>by rw[h1] at hx;exact(Option.some.inj hx).symm) (fun j x hne hj=>by unfold upd;rw[if_neg hne];exact hj)
  ·
   have hj':lget (lmap (frzL i c xs) (ldel σ.locs i)) j≠none:=hj
   rw[qbh,qcJ h.uniq] at hj'
   unfold upd
   split
   ·
    rename_i e;rw[if_pos e] at hj';exact absurd rfl hj'
   ·
    rfl
 ·
  rename_i hne
  refine⟨im,ρ,h,fun _ h=>h,fun _ h=>h,fun v av hr=>?_,fun _ _=>rfl⟩
  split
  ·
   rename_i c xs hl;exact absurd hl (hne c xs)
  ·
   exact hr
theorem SA.young (h:SA w0 bor im0 im ρ σ a w){nb:Nat}(hnb:nb≤w0.heap.size∧∀ b,bor.mem b→nb≤b)(i:Nat):∃ im' ρ',SA w0 bor im0 im' ρ' (σ.young nb i) a w:=by
 unfold AS.young
 split
 ·
  rename_i xs hl
  obtain⟨ob,h1,hB⟩:=h.st.blk i _ hl
  have hs:=h.st.freezeY (nb:=nb) hl h1 (fun b hb=>by
   obtain⟨o1,o2⟩:=ob
   dsimp only at hb
   subst hb
   rcases h.st.own i b _ h1 with h2|h2
   ·
    exact Nat.le_trans hnb.1 h2
   ·
    exact hnb.2 b h2)
  refine⟨fun b=>im b∨ob.1=some b,upd ρ i none,⟨?_,(h.uniq.ldel i).lmap _⟩⟩
  have e:lget (lmap (qhQ nb i xs) (ldel σ.locs i))=fun j=>if j=i then none else (lget σ.locs j).map (Blk.map (qhQ nb i xs)):=by
   funext j
   rw[qbh,qcJ h.uniq]
   split<;>rfl
  show St w0 bor im0 _ _ _ _ (lget (lmap (qhQ nb i xs) (ldel σ.locs i))) a w
  rw[e]
  exact hs
 ·
  exact⟨im,ρ,h⟩
theorem SA.youngL {nb:Nat}(hnb:nb≤w0.heap.size∧∀ b,bor.mem b→nb≤b):∀ (l:List Nat) {σ:AS} {im:Nat→Prop} {ρ:Ids},SA w0 bor im0 im ρ σ a w→∃ im' ρ',SA w0 bor im0 im' ρ' (σ.youngL nb l) a w
 | [],_,_,_,h=>⟨_,_,h⟩
 |i::r,_,_,_,h=>by
  obtain⟨im1,ρ1,h1⟩:=h.young hnb i
  exact SA.youngL hnb r h1
theorem SA.freezeL (l:List Nat):∀ {σ:AS} {im:Nat→Prop} {ρ:Ids},SA w0 bor im0 im ρ σ a w→∃ im' ρ',SA w0 bor im0 im' ρ' (σ.freezeL l) a w∧(∀ b,im b→im' b)∧(∀ j,lget σ.locs j=none→lget (σ.freezeL l).locs j=none) ∧
  (∀ v av,Rep w im ρ v av→Rep w im' ρ' v (AS.fzv l σ av))∧(∀ j,lget (σ.freezeL l).locs j≠none→ρ' j=ρ j):=by
 induction l with
 |nil=>intro σ im ρ h;exact⟨im,ρ,h,fun _ h=>h,fun _ h=>h,fun _ _ h=>h,fun _ _=>rfl⟩
 |cons i l ih =>
  intro σ im ρ h
  obtain⟨im1,ρ1,h1,h2,h3,h4,h5⟩:=h.freeze i
  obtain⟨im2,ρ2,g1,g2,g3,g4,g5⟩:=ih h1
  refine⟨im2,ρ2,g1,fun b hb=>g2 b (h2 b hb),fun j hj=>g3 j (h3 j hj),fun v av hr=>?_,fun j hj=>(g5 j hj).trans (h5 j (fun e=>hj (g3 j e)))⟩
  have hr1:=h4 v av hr
  unfold AS.fzv
  split
  ·
   rename_i c xs hl
   rw[hl] at hr1
   exact g4 v _ hr1
  ·
   rename_i hl
   refine g4 v _ ?_
   split at hr1
   ·
    rename_i c xs hl';exact absurd hl' (hl c xs)
   ·
    exact hr1
theorem qlY (σ:AS)(i:Nat)(dst:Option Tmp):(σ.freeze i).clash dst=σ.clash dst:=by
 unfold AS.freeze
 split<;>rfl
theorem qiP (l:List Nat):∀ (σ:AS) (dst:Option Tmp),(σ.freezeL l).clash dst=σ.clash dst:=by
 induction l with
 |nil=>intro σ dst;rfl
 |cons i l ih=>intro σ dst;exact(ih _ _).trans (qlY σ i dst)
theorem qaQ (cur:Array Value) (off:Nat) (vs:List Value) (h:off+vs.length≤cur.size) (j:Nat) :
  (cur.toList.take off++vs++cur.toList.drop (off+vs.length)).toArray[j]? = if off≤j∧j<off+vs.length then vs[j-off]? else cur[j]?:=by
 rw[List.getElem?_toArray]
 by_cases h1:j<off
 ·
  rw[if_neg (by omega),List.append_assoc,List.getElem?_append_left (by simp;omega),List.getElem?_take,if_pos h1];simp
 ·
  rw[List.append_assoc,List.getElem?_append_right (by simp;omega)]
  have e:(List.take off cur.toList).length=off:=by simp;omega
  rw[e]
  by_cases h2:j<off+vs.length
  ·
   rw[if_pos (by omega),List.getElem?_append_left (by omega)]
  ·
   rw[if_neg (by omega),List.getElem?_append_right (by omega),List.getElem?_drop]
   rw[Array.getElem?_toList]
   congr 1
   omega
theorem qdh {w:World}{b:Nat}{cur cur':Array Value}{e:TypeId}{fr:Nat×Nat}(hh:w.heap[b]? = some (.cells cur e fr))(hs:cur'.size=cur.size):(w.setRow b cur').shape? b=w.shape? b:=by
 simp[World.shape?,setRow_heap w b cur cur' e fr hh,hh,hs]
theorem qf4 {P:Program} {w:World} {t:TypeId} {b off:Nat} {v:Value} {cur:Array Value} {e:TypeId} (hsz:v.cells.size=qbM P t) (hpos:0<qbM P t)
  (hh:w.heap[b]? = some (.cells cur e (0,0))) (hl:off+v.cells.size≤cur.size) (hone:∀ (j:Nat) (u:Value),v.cells[j]? = some u→u.oneCell'=true) :
  (Instr.storeAt t (.pointer (some ⟨b,off,none⟩)) v).run P w=.ok () (w.setRow b (cur.toList.take off++v.cells.toList++cur.toList.drop (off+v.cells.toList.length)).toArray):=by
 have hi:∃ i,P.info? t=some i∧i.size=qbM P t:=by
  unfold qbM at hpos ⊢
  split at hpos
  ·
   rename_i i hi;exact⟨i,hi,rfl⟩
  ·
   simp at hpos
 obtain⟨i,hi,hs⟩:=hi
 have hst:=run_storeCells_at P b off e v.cells.toList 0 cur w hh (by simpa using hl) (fun u hu=>by
  obtain⟨j,hj⟩:=List.getElem?_of_mem hu
  exact hone j u (by simpa using hj))
 simp only[Nat.add_zero] at hst
 simp[Instr.storeAt,Instr.sureAddr,storeVar,sizeOf,typeInfo,hi,hs,hsz,hst]
theorem qel {c i j cap:Nat}(hi:i<cap)(hj:j<szOf c):i*szOf c+j<cap*szOf c:=by
 calc i*szOf c+j<i*szOf c+szOf c:=by omega
  _=(i+1)*szOf c:=by rw[Nat.add_mul,Nat.one_mul]
  _≤cap*szOf c:=Nat.mul_le_mul_right _ (by omega)
theorem elem_eq {c i j i' j':Nat}(hj:j<szOf c)(hj':j'<szOf c)(h:i*szOf c+j=i'*szOf c+j'):i=i'∧j=j':=by
 have h1:i=i':=by
  rcases Nat.lt_trichotomy i i' with h2|h2|h2
  ·
   have:(i+1)*szOf c≤i'*szOf c:=Nat.mul_le_mul_right _ h2
   rw[Nat.add_mul,Nat.one_mul] at this;omega
  ·
   exact h2
  ·
   have:(i'+1)*szOf c≤i*szOf c:=Nat.mul_le_mul_right _ h2
   rw[Nat.add_mul,Nat.one_mul] at this;omega
 subst h1
 exact⟨rfl,by omega⟩
theorem SA.setBlk (h:SA w0 bor im0 im ρ σ a w) {i b m:Nat} {ob:Blk} (hρ:ρ i=some (some b,m)) (hl:lget σ.locs i=some ob) {cur cur':Array Value} {e:TypeId}
  (hh:w.heap[b]? = some (.cells cur e (0,0))) (hs:cur'.size=cur.size) {nb:Blk}
  (hB:(∀ {v av},Rep w im ρ v av→Rep (w.setRow b cur') im ρ v av)→(∀ {v av},Rep w im qai v av→Rep (w.setRow b cur') im qai v av)→(w.setRow b cur').heap[b]? = some (.cells cur' e (0,0))→BRep (w.setRow b cur') im ρ (some b,m) nb) :
  SA w0 bor im0 im ρ ⟨σ.slots,σ.gs,lset σ.locs i nb⟩ a (w.setRow b cur'):=by
 have hkeep:∀ y,y≠b→(w.setRow b cur').heap[y]? = w.heap[y]?:=fun y hy=>setRow_other w b y cur' hy
 have him:∀ y,im y→(w.setRow b cur').heap[y]? = w.heap[y]?:=fun y hy=>hkeep y (by rintro rfl;exact h.st.notim i _ m hρ hy)
 have hshp:∀ j y m',ρ j=some (some y,m')→(w.setRow b cur').shape? y=w.shape? y:=fun j y m' hy=>by
  by_cases e':y=b
  ·
   subst e';exact qdh hh hs
  ·
   exact qbj (hkeep y e')
 refine⟨?_,h.uniq.lset _ _⟩
 have e2:lget (lset σ.locs i nb)=upd (lget σ.locs) i (some nb):=by
  funext j;exact qcK hl _ j
 show St _ _ _ _ _ _ _ (lget (lset σ.locs i nb)) _ _
 rw[e2]
 refine h.st.set hρ hl hkeep (qdh hh hs) rfl rfl rfl (by simp) ?_
 exact hB (fun hr=>hr.stable him (fun _ h=>h) (fun _ _ h=>h) hshp) (fun hr=>hr.stable him (fun _ h=>h) (fun _ _ h=>h) (fun _ _ _ hi=>by simp[qai] at hi)) (setRow_heap w b cur cur' e _ hh)
theorem absentL {L:Locs}{i:Nat}{b:Blk}(h:lget L i=some b):lget L i≠none:=by rw[h];simp
theorem quQ (w:World)(b o y:Nat)(v:Value)(h:y≠b):(w.setCell ⟨b,o,none⟩ v).heap[y]? = w.heap[y]?:=by
 simp only[World.setCell,Array.getElem?_modify]
 rw[if_neg (fun e=>h e.symm)]
theorem quR (w:World)(a:Addr)(v:Value)(y:Nat):(w.setCell a v).shape? y=w.shape? y:=by
 simp only[World.setCell,World.shape?,Array.getElem?_modify]
 by_cases e:a.block=y
 ·
  rw[if_pos e]
  cases h:w.heap[y]? with
  |none=>rfl
  |some o =>
   cases o with
   |cells c t f =>
    simp only[Option.map_some]
    by_cases e2:a.spot.isSome=true
    ·
     rw[if_pos e2]
    ·
     rw[if_neg e2];simp
   |_=>rfl
 ·
  rw[if_neg e]
theorem qiQ:∀ (l:List AV),wkLB l=true→∀ j,wkB (nth l j)=true:=by
 intro l
 induction l with
 |nil=>intro _ j;rfl
 |cons x r ih =>
  intro h j
  simp only[wkLB,Bool.and_eq_true] at h
  cases j with
  |zero=>exact h.1
  |succ j=>exact ih h.2 j
theorem Rep.wild {w':World} {v:Value} {x:AV} (h:Rep w im ρ v x) (hk:wkB x=true)
  (hc:∀ b o y,w.cell? ⟨b,o,none⟩=some (.int .u8 y)→kwf .u8 y→∃ z,kwf .u8 z∧w'.cell? ⟨b,o,none⟩=some (.int .u8 z)) (hf:∀ a,w'.frozen? a=w.frozen? a) (hs:∀ b,w'.shape? b=w.shape? b):Rep w' im ρ v x:=by
 induction h with
 |int h=>exact .int h
 |bool=>exact .bool
 |str h=>exact .str h
 |nilptr=>exact .nilptr
 |nilsl=>exact .nilsl
 |nilfn=>exact .nilfn
 |sl0=>exact .sl0
 |emp=>exact .emp
 |sl=>simp[wkB] at hk
 |iref=>simp[wkB] at hk
 |row0 h=>exact .row0 h
 |row h hle ho hn hm hsh=>exact .row h hle ho hn hm ((hs _).trans hsh)
 |rowE h ho hm=>exact .rowE h ho hm
 |ptr h=>exact .ptr h
 |eptr h ho=>exact .eptr h ho
 |agg hl hone h ih =>
  simp only[wkB] at hk
  exact .agg hl hone fun j v hj=>ih j v hj (qiQ _ hk j)
 |tup hl h ih =>
  simp only[wkB] at hk
  exact .tup hl fun j v hj=>ih j v hj (qiQ _ hk j)
 |fn hl hl' h h' ih ih' =>
  simp only[wkB,Bool.and_eq_true] at hk
  exact .fn hl hl' (fun j v hj=>ih j v hj (qiQ _ hk.1 j)) (fun j v hj=>ih' j v hj (qiQ _ hk.2 j))
 |dead=>exact .dead
 |val=>exact .val
 |both h h' ih ih' =>
  simp only[wkB,Bool.and_eq_true] at hk
  exact .both (ih hk.1) (ih' hk.2)
 |wsl hn hm h0 h =>
  refine .wsl hn hm h0 fun i hi=>?_
  obtain⟨b,off,x,g1,g2,g3,g4,g5,g6⟩:=h i hi
  obtain⟨z,g7,g8⟩:=hc _ _ _ g5 g4
  exact⟨b,off,z,g1,g2,g3,g7,g8,(hf _).trans g6⟩
 |wref hb hn hx hcl hfz =>
  obtain⟨z,g7,g8⟩:=hc _ _ _ hcl hx
  exact .wref hb hn g7 g8 ((hf _).trans hfz)
 |anyb h=>exact .anyb h
theorem Rep.wkeep {w':World} {v:Value} {x:AV} (h:Rep w im ρ v x)
  (hc:∀ b o y,w.cell? ⟨b,o,none⟩=some (.int .u8 y)→kwf .u8 y→∃ z,kwf .u8 z∧w'.cell? ⟨b,o,none⟩=some (.int .u8 z)) (hf:∀ a,w'.frozen? a=w.frozen? a) (hs:∀ b,w'.shape? b=w.shape? b):Rep w' im ρ v (Eng.wkeep x):=by
 unfold Eng.wkeep
 split
 ·
  cases h with
  |both h h' =>
   split
   ·
    rename_i ha hb
    exact .both (h.wild ha hc hf hs) (h'.wild hb hc hf hs)
   ·
    rename_i ha hb;exact(h'.wild hb hc hf hs).any
   ·
    rename_i ha hb;exact(h.wild ha hc hf hs).any
   ·
    exact .dead
 ·
  split
  ·
   rename_i hk;exact h.wild hk hc hf hs
  ·
   exact .dead
theorem wkC_nth {c:Nat}(hc:wkC c=true)(x:ty c)(j:Nat):wkB (nth (enc c x) j)=true:=by
 refine qiQ _ ?_ j
 match c,hc with
 |0,_|1,_|2,_|3,_|4,_|5,_|15,_|16,_|17,_|18,_|19,_|20,_|21,_|22,_|23,_=>rfl
theorem q05:∀ {L:Locs},wlB L=true→∀ {i:Nat} {c:Nat} {xs:List (ty c)},lget L i=some (.row c xs)→wkC c=true
 | [],_,i,c,xs,h=>by cases h
 |(j,b)::r,hk,i,c,xs,h=>by
  simp only[lget] at h
  cases b with
  |cells cs =>
   simp only[wlB] at hk
   split at h
   ·
    cases h
   ·
    exact q05 hk h
  |row c' ys =>
   simp only[wlB,Bool.and_eq_true] at hk
   split at h
   ·
    simp only[Option.some.injEq,Blk.row.injEq] at h
    obtain⟨rfl,-⟩:=h
    exact hk.1
   ·
    exact q05 hk.2 h
theorem SA.wild (h:SA w0 bor im0 im ρ σ a w) (hl:wlB σ.locs=true) {b0 o0:Nat} {x y:Int} (hb:im b0) (hw0:w0.heap.size≤b0) (hcell:w.cell? ⟨b0,o0,none⟩=some (.int .u8 x)) (hy:kwf .u8 y) :
  SA w0 bor im0 im ρ ⟨σ.slots.map wkeep,σ.gs,wlocs σ.locs⟩ a (w.setCell ⟨b0,o0,none⟩ (.int .u8 y)):=by
 have hc:∀ b o z,w.cell? ⟨b,o,none⟩=some (.int .u8 z)→kwf .u8 z→∃ z',kwf .u8 z'∧(w.setCell ⟨b0,o0,none⟩ (.int .u8 y)).cell? ⟨b,o,none⟩=some (.int .u8 z'):=by
  intro b o z hz hkz
  by_cases e:(⟨b,o,none⟩:Addr)=⟨b0,o0,none⟩
  ·
   rw[e];exact⟨y,hy,World.cell?_setCell_same _ _ _ hcell⟩
  ·
   refine⟨z,hkz,?_⟩
   rw[World.cell?_setCell_other _ _ _ _ (Ne.symm e)];exact hz
 have hf:∀ ad,(w.setCell ⟨b0,o0,none⟩ (.int .u8 y)).frozen? ad=w.frozen? ad:=fun ad=>World.frozen?_setCell ..
 have hs:∀ b,(w.setCell ⟨b0,o0,none⟩ (.int .u8 y)).shape? b=w.shape? b:=fun b=>quR ..
 have hwk:∀ {v av},Rep w im ρ v av→Rep (w.setCell ⟨b0,o0,none⟩ (.int .u8 y)) im ρ v (Eng.wkeep av):=fun hr=>hr.wkeep hc hf hs
 have hoth:∀ b,b≠b0→(w.setCell ⟨b0,o0,none⟩ (.int .u8 y)).heap[b]? = w.heap[b]?:=fun b hne=>quQ _ _ _ _ _ hne
 have hL:lget (wlocs σ.locs)=fun j=>(lget σ.locs j).map (Blk.map (List.map wkeep)):=by funext j;exact qbh _ _ _
 refine⟨?_,h.uniq.lmap _⟩
 show St _ _ _ _ _ _ _ (lget (wlocs σ.locs)) _ _
 rw[hL]
 have hsz:(w.setCell ⟨b0,o0,none⟩ (.int .u8 y)).heap.size=w.heap.size:=by simp[World.setCell]
 exact{h.st with
  len:=by simpa using h.st.len
  slot:=fun j v hv=>by
   have hs:=h.st.slot j v hv
   unfold SRep at hs ⊢
   rw[qag (f:=Eng.wkeep) rfl]
   split
   ·
    rename_i hg;rw[hg] at hs;exact hwk hs
   ·
    rename_i tc wt hg
    rw[hg] at hs
    exact⟨fun e=>hwk (hs.1 e),hs.2⟩
  dom:=fun j hj=>h.st.dom j (by simpa using hj)
  blk:=fun j b hb'=>by
   simp only[Option.map_eq_some_iff] at hb'
   obtain⟨b',h1,rfl⟩:=hb'
   obtain⟨ob,h2,h3⟩:=h.st.blk j b' h1
   refine⟨ob,h2,?_⟩
   obtain⟨o1,o2⟩:=ob
   have hne:∀ bb,o1=some bb→bb≠b0:=fun bb e=>by
    subst e
    rintro rfl
    exact h.st.notim _ _ _ h2 hb
   cases b' with
   |cells cs =>
    obtain⟨b,cur,e',g1,g2,g3,g4,g5⟩:=h3
    exact⟨b,cur,e',g1,(hoth b (hne b g1)).trans g2,by simpa using g3,g4,fun k v hk=>by rw[qag (f:=Eng.wkeep) rfl];exact hwk (g5 k v hk)⟩
   |row c xs =>
    obtain⟨g0,g⟩:=h3
    refine⟨g0,g.imp id ?_⟩
    rintro⟨b,cur,e,cap,h1',h2',h3,h4,h5,h6,h7⟩
    exact⟨b,cur,e,cap,h1',(hoth b (hne b h1')).trans h2',h3,h4,h5,h6,fun i j x v hx hj hv=>(h7 i j x v hx hj hv).wild (wkC_nth (q05 hl h1) x j) hc hf hs⟩
  imlt:=fun b hb=>by rw[hsz];exact h.st.imlt b hb
  shp:=fun b hb=>(hs b).trans (h.st.shp b hb)
  size:=by rw[hsz];exact h.st.size
  frame:=fun b hb hn=>(hoth b (by omega)).trans (h.st.frame b hb hn)}
theorem q06 {env:Env} (hyw:∀ n,env.yw.2=some n→w0.heap.size≤n) (h:SA w0 bor im0 im ρ σ a w) {o:Oper} {t:TypeId} {ad x:Operand} (ho:o.op=.store t ad x) {id:Nat} {k:AS→Prop} {next:Act→World→Prop} {Q:Exit→Act→World→Prop} {g:Gd}
  (hg:GdOK a g) (hv:eop env σ g o id k) (hn:Then (qb9 env) w o w0 bor im0 k next):o.wp env.P a w next Q:=by
 unfold eop at hv
 rw[ho] at hv
 dsimp only at hv
 split at hv
 ·
  exact hv.elim
 ·
  rename_i hcl
  split at hv
  ·
   exact hv.elim
  ·
   rename_i hchk
   simp only[Bool.and_eq_true] at hchk
   have hlen:=nbeq hchk.1
   have hpos:0<(qat (σ.ev g x)).length:=by simpa [Nat.blt,Nat.succ_le_iff] using hchk.2
   have hx:=h.ev hg x
   have hc:=qf1 hx hpos
   have had:=h.ev hg ad
   split at hv
   ·
    rename_i i off hae
    rw[hae] at had
    obtain⟨b,m,hρ,hpe⟩:=had.inv_ptr
    split at hv
    ·
     rename_i ds hl
     split at hv
     ·
      rename_i hle
      have hle:=Nat.le_of_ble_eq_true hle
      obtain⟨ob,hρ',hB⟩:=h.st.blk i _ hl
      rw[hρ] at hρ'
      simp only[Option.some.injEq] at hρ'
      subst hρ'
      obtain⟨b',cur,e,h1,hh,hsz,hone,hrep⟩:=hB
      simp only[Option.some.injEq] at h1
      subst h1
      have hrun:=qf4 (P:=env.P) (t:=t) (off:=off) (v:=a.eval x) (by rw[hc.1];exact hlen) (by omega) hh (by rw[hc.1];omega) hc.2.1
      generalize hcur':(cur.toList.take off++(a.eval x).cells.toList++cur.toList.drop (off+(a.eval x).cells.toList.length)).toArray=cur' at hrun
      have hsz':cur'.size=cur.size:=by rw[← hcur'];have:=hc.1;simp;omega
      have hget:∀ j,cur'[j]? = if off≤j∧j<off+(a.eval x).cells.size then (a.eval x).cells[j-off]? else cur[j]?:=fun j=>by
       rw[← hcur',qaQ _ _ _ (by have:=hc.1;simp;omega)]
       simp
      have hst:=h.setBlk hρ hl hh hsz' (nb:=.cells (qfg ds off (qat (σ.ev g x)))) (fun s1 s2 hh'=>by
       refine⟨b,cur',e,rfl,hh',by rw[hsz',qej _ _ _ (by omega)];exact hsz,fun j v hj=>?_,fun j v hj=>?_⟩
       ·
        rw[hget] at hj
        split at hj
        ·
         exact hc.2.1 _ _ hj
        ·
         exact hone _ _ hj
       ·
        rw[hget,hc.1] at hj
        rw[qk8 _ _ _ (by omega)]
        split at hj
        ·
         rename_i hr;rw[if_pos hr];exact s1 (hc.2.2 _ _ hj)
        ·
         rename_i hr;rw[if_neg hr];exact s1 (hrep _ _ hj))
      refine qgn (w':=w.setRow b cur') ?_ (hn _ _ _ _ _ (bindC_ok hv) (hst.put hcl qaW) fun e=>by rw[ho] at e;cases e)
      simp[execOp,ho,hpe,hrun]
     ·
      exact hv.elim
    ·
     rename_i c xs hl
     split at hv
     ·
      rename_i ys h0 hd
      simp only[Bool.and_eq_true] at h0
      have hz:0<szOf c:=by simpa [Nat.blt,Nat.succ_le_iff] using h0.2
      have h0:=nbeq h0.1
      subst h0
      obtain⟨hyl,hv⟩:=qcL hv
      have hv:=quM hv
      obtain⟨ob,hρ',hB⟩:=h.st.blk i _ hl
      rw[hρ] at hρ'
      simp only[Option.some.injEq] at hρ'
      subst hρ'
      obtain⟨hkn,hB⟩:=hB
      dsimp only at hkn hB
      rcases hB with ⟨h1,-⟩|⟨b',cur,e,cap,h1,hh,hsz,hcap,hm,hone,hrep⟩
      ·
       cases h1
      simp only[Option.some.injEq] at h1
      subst h1
      obtain⟨d1,d2⟩:=qiN (w:=w) (im:=im) (ρ:=ρ) c hz _ _ _ hd
      have hle:(qat (σ.ev g x)).length≤cur.size:=by rw[d1,hsz,hyl];exact Nat.mul_le_mul_right _ hcap
      have hrun:=qf4 (P:=env.P) (t:=t) (off:=0) (v:=a.eval x) (by rw[hc.1];exact hlen) (by omega) hh (by rw[hc.1];omega) hc.2.1
      generalize hcur':(cur.toList.take 0++(a.eval x).cells.toList++cur.toList.drop (0+(a.eval x).cells.toList.length)).toArray=cur' at hrun
      have hsz':cur'.size=cur.size:=by rw[← hcur'];have:=hc.1;simp;omega
      have hget:∀ j,cur'[j]? = if 0≤j∧j<0+(a.eval x).cells.size then (a.eval x).cells[j-0]? else cur[j]?:=fun j=>by
       rw[← hcur',qaQ _ _ _ (by have:=hc.1;simp;omega)]
       simp
      have hst:=h.setBlk hρ hl hh hsz' (nb:=.row c ys) (fun s1 s2 hh'=>by
       refine⟨by rw[hyl];exact hkn,.inr ⟨b,cur',e,cap,rfl,hh',by rw[hsz',hsz],by omega,hm,fun j v hj=>?_,fun i j x v hx hj hv=>?_⟩⟩
       ·
        rw[hget] at hj
        split at hj
        ·
         exact hc.2.1 _ _ hj
        ·
         exact hone _ _ hj
       ·
        have hi:=qbO hx
        rw[hget,hc.1,if_pos ⟨Nat.zero_le _,by rw[Nat.zero_add,d1];exact qel hi hj⟩] at hv
        exact s2 (d2 i j x v hx hj (hc.2.2 _ _ hv)))
      refine qgn (w':=w.setRow b cur') ?_ (hn _ _ _ _ _ hv (hst.put hcl qaW) fun e=>by rw[ho] at e;cases e)
      simp[execOp,ho,hpe,hrun]
     ·
      exact hv.elim
    ·
     exact hv.elim
   ·
    rename_i c i idx off hae
    rw[hae] at had
    obtain⟨b,m,hρ,hpe⟩:=had.inv_eptr
    obtain⟨im',ρ',h',hsub,habs,hfz,hkρ⟩:=h.freezeL (idsL (qat (σ.ev g x)) [])
    split at hv
    ·
     rename_i c' xs hl
     split at hv
     ·
      rename_i y hcc hd
      have hcc:=nbeq hcc
      subst hcc
      obtain⟨hidx,hv⟩:=qcL hv
      have hv:=qni hv
      have hρ1:ρ' i=some (some b,m):=(hkρ i (absentL hl)).trans hρ
      obtain⟨ob,hρ',hB⟩:=h'.st.blk i _ hl
      rw[hρ1] at hρ'
      simp only[Option.some.injEq] at hρ'
      subst hρ'
      obtain⟨hkn,hB⟩:=hB
      dsimp only at hkn hB
      rcases hB with ⟨h1,-⟩|⟨b',cur,e,cap,h1,hh,hsz,hcap,hm,hone,hrep⟩
      ·
       cases h1
      simp only[Option.some.injEq] at h1
      subst h1
      obtain⟨d1,d2⟩:=qhC (w:=w) (im:=im') (ρ:=ρ') c _ y hd
      have hel:=qbL c (xs.getD idx (dflt c))
      have hcl':((qat (σ.ev g x)).map (AS.fzv (idsL (qat (σ.ev g x)) []) σ)).length=(qat (σ.ev g x)).length:=by simp
      generalize hcs':(qat (σ.ev g x)).map (AS.fzv (idsL (qat (σ.ev g x)) []) σ)=cs' at hd d1 d2 hcl'
      have hoff:off+(qat (σ.ev g x)).length≤szOf c:=by
       rw[← hel]
       rcases Nat.lt_or_ge (enc c (xs.getD idx (dflt c))).length (off+cs'.length) with hlt|hge
       ·
        exfalso
        rw[← hel] at d1
        generalize (enc c (xs.getD idx (dflt c)))=el at d1 hlt
        simp only[qfg,qcw,qcx,List.length_append,List.length_take,List.length_drop] at d1
        omega
       ·
        omega
      have hfc:∀ (j:Nat) (v:Value),(a.eval x).cells[j]? = some v→Rep w im' ρ' v (nth cs' j):=fun j v hj=>by
       have hjl:=qf0 hj
       rw[hc.1] at hjl
       rw[← hcs',q60 _ _ _ hjl]
       exact hfz _ _ (hc.2.2 j v hj)
      have hgx:xs[idx]? = some (xs.getD idx (dflt c)):=by simp[List.getD,List.getElem?_eq_getElem hidx]
      have hle:idx*szOf c+off+(a.eval x).cells.size≤cur.size:=by
       rw[hsz,hc.1]
       calc idx*szOf c+off+(qat (σ.ev g x)).length≤idx*szOf c+szOf c:=by omega
        _=(idx+1)*szOf c:=by rw[Nat.add_mul,Nat.one_mul]
        _≤cap*szOf c:=Nat.mul_le_mul_right _ (by omega)
      have hrun:=qf4 (P:=env.P) (t:=t) (off:=idx*szOf c+off) (v:=a.eval x) (by rw[hc.1];exact hlen) (by omega) hh hle hc.2.1
      generalize hcur':(cur.toList.take (idx*szOf c+off)++(a.eval x).cells.toList++cur.toList.drop (idx*szOf c+off+(a.eval x).cells.toList.length)).toArray=cur' at hrun
      have hsz':cur'.size=cur.size:=by rw[← hcur'];simp;omega
      have hget:∀ j,cur'[j]? = if idx*szOf c+off≤j∧j<idx*szOf c+off+(a.eval x).cells.size then (a.eval x).cells[j-(idx*szOf c+off)]? else cur[j]?:=fun j=>by
       rw[← hcur',qaQ _ _ _ (by simp;omega)]
       simp
      have hst:=h'.setBlk hρ1 hl hh hsz' (nb:=.row c (xs.set idx y)) (fun s1 s2 hh'=>by
       refine⟨by simpa using hkn,.inr ⟨b,cur',e,cap,rfl,hh',by rw[hsz',hsz],by simpa using hcap,hm,fun j v hj=>?_,fun i j x' v hx' hj hv=>?_⟩⟩
       ·
        rw[hget] at hj
        split at hj
        ·
         exact hc.2.1 _ _ hj
        ·
         exact hone _ _ hj
       ·
        rw[List.getElem?_set] at hx'
        refine s2 ?_
        by_cases hii:idx=i
        ·
         subst hii
         rw[if_pos rfl,if_pos hidx] at hx'
         simp only[Option.some.injEq] at hx'
         subst hx'
         refine d2 j v hj ?_
         rw[qk8 _ _ _ (by omega)]
         rw[hget,hc.1] at hv
         split at hv
         ·
          rename_i hr
          rw[if_pos (by omega)]
          have e1:idx*szOf c+j-(idx*szOf c+off)=j-off:=by omega
          rw[e1] at hv
          exact hfc _ _ hv
         ·
          rename_i hr
          rw[if_neg (by omega)]
          exact(hrep idx j _ v hgx hj hv).stable (fun _ _=>rfl) (fun _ h=>h) (fun _ _ hi=>by simp[qai] at hi) (fun _ _ _ _=>rfl)
        ·
         rw[if_neg hii] at hx'
         rw[hget,hc.1] at hv
         rw[if_neg] at hv
         ·
          exact hrep i j x' v hx' hj hv
         ·
          rintro⟨g1,g2⟩
          have:i*szOf c+j=idx*szOf c+(i*szOf c+j-idx*szOf c):=by omega
          have:=elem_eq hj (by omega) this
          exact hii this.1.symm)
      refine qgn (w':=w.setRow b cur') ?_ (hn _ _ _ _ _ hv (hst.put ?_ qaW) fun e=>by rw[ho] at e;cases e)
      ·
       simp[execOp,ho,hpe,hrun]
      ·
       exact(qiP _ _ _).trans hcl
     ·
      exact hv.elim
    ·
     exact hv.elim
   ·
    rename_i nb hae
    rw[hae] at had
    split at hv
    ·
     rename_i c hcs
     split at hv
     ·
      rename_i n hn2 hbl
      simp only[Bool.and_eq_true] at hbl
      obtain⟨hle,hv⟩:=hv
      generalize hue:a.eval ad=ua at had
      cases had with
      | @wref _ nb b off x' hb hnb hx' hcl' hfz =>
       rw[hcs] at hc
       obtain⟨y,hye,hky⟩:∃ y,(a.eval x).cells=#[.int .u8 y]∧kwf .u8 y:=by
        obtain⟨c1,c2,c3⟩:=hc
        obtain⟨u,hu⟩:∃ u,(a.eval x).cells[0]? = some u:=⟨_,qar (by rw[c1];exact Nat.zero_lt_one)⟩
        have h3:=c3 0 u hu
        have hu':∃ y,u=.int .u8 y∧kwf .u8 y:=by
         simp only[nth] at h3
         cases hcc:c with
         |int k y =>
          rw[hcc] at h3
          obtain⟨rfl,hk⟩:=h3.inv_int
          have:k=.u8:=by
           have hb1:=hbl.1
           rw[hcc] at hb1
           cases k<;>first|rfl|(simp[byteB] at hb1)
          subst this
          exact⟨_,rfl,hk⟩
         |anyb=>rw[hcc] at h3;cases h3 with|anyb h=>exact⟨_,rfl,h⟩
         |_=>have hb1:=hbl.1;rw[hcc] at hb1;simp[byteB] at hb1
        obtain⟨y,rfl,hk⟩:=hu'
        refine⟨y,?_,hk⟩
        apply Array.ext
        ·
         rw[c1];rfl
        ·
         intro i h1 h2
         have:i=0:=by simp at h2;omega
         subst this
         simpa [h1] using hu
       have hst:=h.wild (y:=y) hbl.2 hb (Nat.le_trans (hyw n hn2) (Nat.le_trans hle hnb)) hcl' hky
       refine qgn (w':=w.setCell ⟨b,off,none⟩ (.int .u8 y)) ?_ (hn _ _ _ _ _ hv (hst.put hcl qaW) fun e=>by rw[ho] at e;cases e)
       have hsz1:qbM env.P t=1:=by rw[← hlen,hcs];rfl
       obtain⟨i',hi',hs'⟩:∃ i,env.P.info? t=some i∧i.size=1:=by
        unfold qbM at hsz1
        split at hsz1
        ·
         rename_i i hi;exact⟨i,hi,hsz1⟩
        ·
         cases hsz1
       have hrun:=run_storeCells_cells (P:=env.P) b off [.int .u8 y] 0 w (fun j hj=>by
        have:j=0:=by simpa using hj
        subst this
        simp[hcl']) (fun j hj=>by
        have:j=0:=by simpa using hj
        subst this
        simpa using hfz) (fun v hv=>by
        simp only[List.mem_singleton] at hv
        subst hv;rfl)
       have hrun':(Instr.storeAt t (.pointer (some ⟨b,off,none⟩)) (a.eval x)).run env.P w=.ok () (w.setCell ⟨b,off,none⟩ (.int .u8 y)):=by
        simp[Instr.storeAt,Instr.sureAddr,storeVar,sizeOf,typeInfo,hi',hs',hye,hrun,World.setCells]
       simp[execOp,ho,hue,hrun']
     ·
      exact hv.elim
    ·
     exact hv.elim
   ·
    exact hv.elim
end
end Go.Eng
