import Derived.Test.YtcdppfnjidlknaaGreatDoorYan
set_option linter.unusedVariables false
set_option linter.unusedSimpArgs false
namespace Go.Eng
open Go
noncomputable section
structure DFn where
 ro:Bool
 own:List Bool:=[]
 lend:Nat→Bool:=fun _=>true
 args:PA
 B:List PB:=[]
 out:Pat
 T:Type:=out.V
 to:out.V→T:=by exact id
 of:T→out.V:=by exact id
 iso:∀ t,of (to t)=t:=by intro t;rfl
def lentP (own:List Bool):Nat→List PB→List (Nat×PB)
 |_,[]=>[]
 |j,b::r=>(nm own j,b)::lentP own (j+1) r
abbrev DFn.inB (d:DFn):List (Nat×PB):=lentP d.own 0 d.B
abbrev DFn.In (d:DFn):Type:=VR d.inB×VC d.inB×PA.V d.args
def DFn.start (d:DFn)(fn:Func)(v:d.In):AS:=⟨pad (PA.put (lenR d.inB v.1) d.args v.2.2) fn.ntmps,[],qh6 (lenR d.inB v.1) d.inB v.1 v.2.1⟩
def DFn.getIn {R:Type}(o:DOps)(d:DFn)(args:List AV)(B:List Blk)(k:d.In→Option R):Option R :=
 match qcG (qrl d.inB)&&PA.ids d.args (qrl d.inB)&&PB.ids d.inB (qrl d.inB) with
 |true=>getR (qco d.own 0 B) d.inB fun vr=>getC o (qco d.own 0 B) (lenR d.inB vr) d.inB fun vc=>PA.get o (lenR d.inB vr) d.args args fun vs=>k (vr,vc,vs)
 |false=>none
def DFn.body (env:DEnv)(d:DFn)(fn:Func)(v:d.In):Option d.T:=match fn.body with
 |none=>none
 |some c=>den env c (d.start fn v) fun e σ=>match e with
  |.norm|.ret=>d.out.get env.o σ fun t=>some (d.to t)
  |_=>none
def q0m {R:Type}(P:Program)(ro:Bool) (σ:AS)(rs:List ResultVar)(k:KO R):Option R :=
 match qwQ P σ rs,noGs σ.gs with
 |some r,true=>match qfw σ.locs 1000 (ids r []) [] with
  |l=>match qrX σ.locs l l with
   |some F=>match qcG l&&qde l r&&(!ro||(qrq r&&qhR F)) with
    |true=>k (ren (fun i=>idx l i 0) r) [] F
    |false=>none
   |none=>none
 |_,_=>none
def qu4 {R:Type}(P:Program)(own:List Bool)(nB:Nat) (σ:AS)(rs:List ResultVar)(k:KO R):Option R :=
 match qwQ P σ rs,noGs σ.gs with
 |some r,true=>match qfw σ.locs 1000 (pins own 0 nB++ids r []) [] with
  |l=>match bigs l with
   |lf=>match quA σ.locs l (gnum nB lf) lf,q0t σ.locs l (gnum nB lf) own 0 nB with
    |some F,some bs=>match qcG l&&qde l r with
     |true=>k (ren (gnum nB lf) r) bs F
     |false=>none
    |_,_=>none
 |_,_=>none
def finD {R:Type}(P:Program)(ro:Bool)(own:List Bool)(rs:List ResultVar)(nB:Nat) (σ:AS)(k:KO R):Option R:=match own with
 | []=>q0m P ro σ rs k
 |o::os=>qu4 P (o::os) nB σ rs k
def DFn.spec (P:Program)(d:DFn)(fn:Func)(f:d.In→Option d.T):DSpec:=⟨d.ro,d.own,d.lend,fun o R args B k=>match Nat.ble args.length fn.ntmps with
 |true=>d.getIn o args B fun v=>o.bind (f v) fun t=>finD P d.ro d.own fn.results.toList B.length (d.out.st (d.of t)) k
 |false=>none⟩
theorem qc4 {α β:Type}{o:Option α}{k:α→Option β}{r:β}(h:qux o k=some r):∃ x,o=some x∧k x=some r:=by
 unfold qux at h
 split at h
 ·
  exact⟨_,rfl,h⟩
 ·
  cases h
theorem qk2 {R:Type} {r:R} {P:Program} {ro:Bool} {σ:AS} {rs:List ResultVar} {k:KO R} {k':AV→List (Option Blk)→List Blk→Prop} (hk:∀ x bs F,k x bs F=some r→k' x bs F) (h:q0m P ro σ rs k=some r) :
  q2R P ro σ rs k':=by
 unfold q0m at h
 unfold q2R
 split at h
 ·
  rename_i x h1 h2
  rw[h1,h2]
  dsimp only at h ⊢
  split at h
  ·
   rename_i F h3
   rw[h3]
   dsimp only
   split at h
   ·
    rename_i h4
    rw[h4];exact hk _ _ _ h
   ·
    cases h
  ·
   cases h
 ·
  cases h
theorem qob {R:Type} {r:R} {P:Program} {own:List Bool} {nB:Nat} {σ:AS} {rs:List ResultVar} {k:KO R} {k':AV→List (Option Blk)→List Blk→Prop} (hk:∀ x bs F,k x bs F=some r→k' x bs F) (h:qu4 P own nB σ rs k=some r) :
  quD P own nB σ rs k':=by
 unfold qu4 at h
 unfold quD
 split at h
 ·
  rename_i x h1 h2
  rw[h1,h2]
  dsimp only at h ⊢
  split at h
  ·
   rename_i F bs h3 h4
   rw[h3,h4]
   dsimp only
   split at h
   ·
    rename_i h5
    rw[h5];exact hk _ _ _ h
   ·
    cases h
  ·
   cases h
 ·
  cases h
section
variable {w0 w : World} {bor : Bor} {im0 im : Nat → Prop} {ρ : Ids} {σ : AS} {a : Act}
theorem nth_pad (l:List AV)(n j:Nat):nth (pad l n) j=if j<l.length then nth l j else if j<n then .tup [] else .dead:=by
 unfold pad
 rw[q6f]
 split
 ·
  rfl
 ·
  rw[qao,List.getElem?_replicate]
  by_cases hj:j<n
  ·
   rw[if_pos (by omega),if_pos hj];rfl
  ·
   rw[if_neg (by omega),if_neg hj];rfl
theorem qu5 {R:Type} {r:R} {d:DFn} {fn:Func} {args:List AV} {B:List Blk} {k:d.In→Option R} (h:SA w0 bor im0 im ρ ⟨pad args fn.ntmps,[],qco d.own 0 B⟩ a w) (hv:d.getIn DOps.std args B k=some r) :
  ∃ v ρ',k v=some r∧SA w0 bor im0 im ρ' (d.start fn v) a w:=by
 unfold DFn.getIn at hv
 split at hv
 ·
  rename_i hg
  simp only[Bool.and_eq_true] at hg
  obtain⟨⟨hn,hi⟩,hb⟩:=hg
  obtain⟨vr,h1,h2⟩:=qu1 _ hv
  obtain⟨vc,h3,h4⟩:=qu3 (w:=w) (im:=im) (ρ:=ρ) _ h1 hb
  obtain⟨vs,h5,h6,h7⟩:=PA.get_ok (w:=w) (im:=im) (ρ:=ρ) _ _ _ h3 hi
  have hk:=qnc (len:=lenR d.inB vr) d.inB vr vc
  refine⟨(vr,vc,vs),_,h5,h.sub (τ:=d.start fn (vr,vc,vs)) rfl rfl ?_ (by show qcG ((qh6 _ _ _ _).map (·.1))=true;rw[hk];exact hn) ?_ ?_⟩
  ·
   show (pad (PA.put _ _ _) _).length=(pad _ _).length
   unfold pad
   rw[List.length_append,List.length_append,h6]
  ·
   show ∀ (j:Nat) (u:Value),_→Rep w im (qcf ((qh6 _ _ _ _).map (·.1)) ρ) u (nth (pad (PA.put _ _ _) _) j)
   rw[hk]
   intro j u hr
   dsimp only at hr
   rw[nth_pad] at hr ⊢
   rw[h6]
   split
   ·
    rename_i hj
    rw[if_pos hj] at hr
    exact h7 j u hr
   ·
    rename_i hj
    rw[if_neg hj] at hr
    split
    ·
     rename_i hj2
     rw[if_pos hj2] at hr
     exact qbW hr rfl
    ·
     exact .dead
  ·
   show ∀ i b,_→∃ b',_∧SubB w im ρ (qcf ((qh6 _ _ _ _).map (·.1)) ρ) b' b
   rw[hk]
   exact qnd _ vr vc h2 h4
 ·
  cases hv
end
theorem qwI {w:World} {im:Nat→Prop} {ρ0:Ids} {own:List Bool} {B:List Blk} {fn:Func} {args:List AV} {vals:Array Value} (him:∀ b,im b→b<w.heap.size) (hnB:B.length≤100) (hL:Lent w im ρ0 (qco own 0 B)) (hlen:vals.size=args.length)
  (hrep:∀ (j:Nat) (v:Value),vals[j]? = some v→Rep w im ρ0 v (nth args j)) (hle:args.length≤fn.ntmps) :
  SA w (borOf ρ0) im im ρ0 ⟨pad args fn.ntmps,[],qco own 0 B⟩ {tmps:=vals++Array.replicate (fn.ntmps-vals.size) undef,defers:=[]} w:=by
 have hpad:(pad args fn.ntmps).length=fn.ntmps:=by simp[pad];omega
 have hlt:∀ i b m,ρ0 i=some (some b,m)→b<w.heap.size:=fun i b m hi=>by
  cases hl:lget (qco own 0 B) i with
  |none=>rw[hL.dom i hl] at hi;cases hi
  |some x =>
   obtain⟨ob,h1,h2⟩:=hL.blk i x hl
   rw[hi] at h1
   simp only[Option.some.injEq] at h1
   subst h1
   exact h2.lt rfl
 refine⟨St.mk rfl (by simp[hpad];omega) (fun i v hi=>?_) hL.dom hL.blk hL.inj hL.notim him (fun _ h=>h) (fun _ h=>.inl h) (fun i b m hi=>.inr ⟨i,m,hi⟩) (fun i x _ hi=>hi) (fun _ _=>rfl) (fun b hb=>by obtain⟨i,m,hi⟩:=hb;exact hlt i b m hi) rfl rfl rfl (Nat.le_refl _) (fun _ _ _=>rfl),qsi _ _ _ (by omega)⟩
 show Rep w im ρ0 v (nth (pad args fn.ntmps) i)
 dsimp only at hi
 rw[Array.getElem?_append] at hi
 unfold pad
 rw[qao]
 split at hi
 ·
  rename_i h1
  rw[List.getElem?_append_left (by omega),← qao]
  exact hrep i v hi
 ·
  rename_i h1
  rw[List.getElem?_append_right (by omega)]
  rw[Array.getElem?_replicate] at hi
  split at hi
  ·
   rename_i h2
   simp only[Option.some.injEq] at hi;subst hi
   rw[List.getElem?_replicate,if_pos (by omega)]
   exact qaW
  ·
   cases hi
structure DH (P:Program) (f:Nat) (s:DSpec):Prop where
 out:qbe P f s.to
abbrev DT:=List (FuncId×DSpec)
def q6g:DT→FuncId→Option DSpec
 | [],_=>none
 |(i,s)::r,f=>match Nat.beq i f with
  |true=>some s
  |false=>q6g r f
def DTok (P:Program):DT→Prop
 | []=>True
 |(i,s)::r=>DH P i s∧DTok P r
theorem DTok.cons {P:Program}{i:Nat}{s:DSpec}{T:DT}(h:DH P i s)(hT:DTok P T):DTok P ((i,s)::T):=⟨h,hT⟩
theorem qgk {P:Program}:∀ {T:DT},DTok P T→∀ f s,q6g T f=some s→qbe P f s.to
 | [],_,f,s,h=>by cases h
 |(i,x)::r,hT,f,s,h=>by
  unfold q6g at h
  split at h
  ·
   rename_i e
   have e:=nbeq e;subst e
   cases h;exact hT.1.out
  ·
   exact qgk hT.2 f s h
def q48:List (Nat×Pat)→Nat→Option Pat
 | [],_=>none
 |(i,s)::r,f=>match Nat.beq i f with
  |true=>some s
  |false=>q48 r f
structure Same (env:DOps→DEnv) (d:DFn) (fn:Func) (f:DOps→d.In→Option d.T):Prop where
 out:∀ o v,f o v=d.body (env o) fn v
theorem DFn.body_ok {env:DEnv}{d:DFn}{fn:Func}{v:d.In}{t:d.T}(h:d.body env fn v=some t):∃ c,fn.body=some c∧den env c (d.start fn v) (fun e σ=>match e with
  |.norm|.ret=>d.out.get env.o σ fun t=>some (d.to t)
  |_=>none)=some t:=by
 unfold DFn.body at h
 split at h
 ·
  cases h
 ·
  rename_i c hc;exact⟨c,hc,h⟩
theorem DFn.holds {enV:DOps→DEnv} {env:DEnv} (he:env=enV DOps.std) (hs:env.o=DOps.std) (hΓ:∀ f s,env.spec f=some s→qbe env.P f s.to) {f:FuncId} {fn:Func} {d:DFn} {F:d.In→Option d.T} {Fo:DOps→d.In→Option d.T} (hFo:F=Fo DOps.std) (hf:env.P.funcs[f]? = some fn)
  (hc:∀ args w,(callFunc f args).run env.P w=.ok (.enter f args) w) (hF:Same enV d fn Fo):qbe env.P f (d.spec env.P fn F).to:=by
 have hΓ':∀ f s,env.to.spec f=some s→qbe env.P f s:=fun f s h=>by
  have h:(env.spec f).map DSpec.to=some s:=h
  obtain⟨s',h1,rfl⟩:=Option.map_eq_some_iff.1 h
  exact hΓ f s' h1
 cases hown:d.own with
 |nil =>
  refine qcO.h ?_ hown
  intro w im vals args k o a next Q him hKc hlen hrep hrun hnext
  obtain⟨R,K,r,hrun,hK⟩:=hrun
  rw[hc]
  show Calls env.P f vals w _
  have hrun:(match Nat.ble args.length fn.ntmps with
   |true=>d.getIn DOps.std args [] fun v=>qux (F v) fun t=>finD env.P d.ro d.own fn.results.toList 0 (d.out.st (d.of t)) K
   |false=>none)=some r:=hrun
  split at hrun
  ·
   rename_i hle
   have hle:=Nat.le_of_ble_eq_true hle
   have h0:=quW (fn:=fn) him hlen hrep hle
   have h0:SA w qiH im im qai ⟨pad args fn.ntmps,[],qco d.own 0 []⟩ _ w:=h0
   obtain⟨v,ρ1,h1,h2⟩:=qu5 h0 hrun
   obtain⟨t,h3,h4⟩:=qc4 h1
   rw[hFo,hF.out DOps.std v,← he] at h3
   obtain⟨c,hb,h5⟩:=DFn.body_ok h3
   rw[hs] at h5
   refine calls_of_wp hf hb ?_
   refine qcb (sp:=env.spec) ⟨fun f s h=>(hΓ' f s h).n _,hKc,fun b hb=>⟨him b hb,fun e=>e⟩,⟨Nat.zero_le _,fun _ e=>False.elim e⟩,fun _ e=>by cases e⟩ c hs rfl rfl h2 h5 fun e σ' a' w' im' ρ' hk h'=>?_
   have key:d.out.get DOps.std σ' (fun t=>some (d.to t))=some t→a'.defers=[]∧∃ v,(results fn a'.tmps).run env.P w'=.ok v w'∧next (a.put o.dst v) w':=fun hk=>by
    obtain⟨t',im2,ρ2,e,h6⟩:=qcA h' hk
    cases e
    rw[hown,d.iso] at h4
    obtain⟨v,im3,ρ3,x,F',g1,g2,g3⟩:=qf8 h6 (qk2 hK h4) him
    exact⟨h'.st.defers,v,g1,hnext _ _ _ _ _ _ g2 g3⟩
   cases e with
   |norm=>exact key hk
   |ret=>exact key hk
   |exit i=>cases hk
  ·
   cases hrun
 |cons b0 bs0 =>
  refine qmd.h ?_ (by show d.own≠[];rw[hown];simp)
  intro w im ρ0 vals args B k o a next Q him hKc hnB hL hlen hrep hrun hnext
  obtain⟨R,K,r,hrun,hK⟩:=hrun
  rw[hc]
  show Calls env.P f vals w _
  have hrun:(match Nat.ble args.length fn.ntmps with
   |true=>d.getIn DOps.std args B fun v=>qux (F v) fun t=>finD env.P d.ro d.own fn.results.toList B.length (d.out.st (d.of t)) K
   |false=>none)=some r:=hrun
  have hL:Lent w im ρ0 (qco d.own 0 B):=hL
  split at hrun
  ·
   rename_i hle
   have hle:=Nat.le_of_ble_eq_true hle
   have h0:=qwI (fn:=fn) him hnB hL hlen hrep hle
   obtain⟨v,ρ1,h1,h2⟩:=qu5 h0 hrun
   obtain⟨t,h3,h4⟩:=qc4 h1
   rw[hFo,hF.out DOps.std v,← he] at h3
   obtain⟨c,hb,h5⟩:=DFn.body_ok h3
   rw[hs] at h5
   refine calls_of_wp hf hb ?_
   refine qcb (sp:=env.spec) ⟨fun f s h=>(hΓ' f s h).n _,hKc,fun b hb=>⟨him b hb,fun e=>by
    obtain⟨i,m,e⟩:=e
    exact hL.notim i b m e hb⟩,⟨Nat.zero_le _,fun _ _=>Nat.zero_le _⟩,fun _ e=>by cases e⟩ c hs rfl rfl h2 h5 fun e σ' a' w' im' ρ' hk h'=>?_
   have key:d.out.get DOps.std σ' (fun t=>some (d.to t))=some t→a'.defers=[]∧∃ v,(results fn a'.tmps).run env.P w'=.ok v w'∧next (a.put o.dst v) w':=fun hk=>by
    obtain⟨t',im2,ρ2,e,h6⟩:=qcA h' hk
    cases e
    rw[hown,d.iso] at h4
    rw[hown] at hL
    obtain⟨v,im3,ρ3,x,bs,F',g1,g2,g3⟩:=qiW hnB hL h6 (qob hK h4) him
    exact⟨h'.st.defers,v,g1,hnext _ _ _ _ _ _ _ g2 g3⟩
   cases e with
   |norm=>exact key hk
   |ret=>exact key hk
   |exit i=>cases hk
  ·
   cases hrun
def mkDE (P:Program)(code:TypeId→Nat)(T:DT)(l c:List (Nat×Pat))(li:List Nat)(o:DOps):DEnv:=⟨o,P,code,q6g T,q48 l,fun _=>none,q48 c,li,0⟩
def mkDC (P:Program)(code:TypeId→Nat)(T:DT)(l c:List (Nat×Pat))(li:List Nat)(cu:List (Nat×Pat))(o:DOps):DEnv:=⟨o,P,code,q6g T,q48 l,q48 cu,q48 c,li,0⟩
theorem q6h {P:Program} {code:TypeId→Nat} (T:DT) (l c:List (Nat×Pat)) (li:List Nat) (hT:DTok P T) {f:Nat} {fn:Func} {d:DFn} {Fo:DOps→d.In→Option d.T} (hF:Same (mkDE P code T l c li) d fn Fo) (hf:P.funcs[f]? = some fn)
  (hc:∀ args w,(callFunc f args).run P w=.ok (.enter f args) w):DH P f (d.spec P fn (Fo DOps.std)) :=
 ⟨DFn.holds (env:=mkDE P code T l c li DOps.std) (enV:=mkDE P code T l c li) rfl rfl (qgk hT) rfl hf hc hF⟩
def orD (s1 s2:DSpec):DSpec:=⟨s1.ro,s1.own,s1.lend,fun o R args B K=>match B with
 | []=>s1.run o R args [] K
 |b::bs=>s2.run o R args (b::bs) K⟩
theorem orD_ok {P:Program}{f:Nat}{s1 s2:DSpec}{b:Bool}{bs:List Bool}(h1:DH P f s1)(h2:DH P f s2)(e1:s1.own=b::bs)(e2:s2.own=b::bs):DH P f (orD s1 s2):=by
 obtain⟨ro1,own1,lend1,run1⟩:=s1
 obtain⟨ro2,own2,lend2,run2⟩:=s2
 dsimp only at e1 e2
 subst e1;subst e2
 have g1:=h1.out.b (show (DSpec.to ⟨ro1,b::bs,lend1,run1⟩).own=b::bs from rfl)
 have g2:=h2.out.b (show (DSpec.to ⟨ro2,b::bs,lend2,run2⟩).own=b::bs from rfl)
 refine⟨qmd.h ?_ (by show b::bs≠[];simp)⟩
 intro w im ρ0 vals args B k o a next Q him hKc hnB hL hlen hrep hrun hnext
 obtain⟨R,K,r,hrun,hK⟩:=hrun
 cases B with
 |nil=>exact g1 w im ρ0 vals args [] k o a next Q him hKc hnB hL hlen hrep ⟨R,K,r,hrun,hK⟩ hnext
 |cons x xs=>exact g2 w im ρ0 vals args (x::xs) k o a next Q him hKc hnB hL hlen hrep ⟨R,K,r,hrun,hK⟩ hnext
def inlS (env:DOps→DEnv)(ro:Bool)(own:List Bool)(lend:Nat→Bool)(fn:Func):DSpec:=⟨ro,own,lend,fun o R args B k=>match Nat.ble args.length fn.ntmps,fn.body with
 |true,some c=>den (env o) c ⟨pad args fn.ntmps,[],qco own 0 B⟩ fun e σ=>match e with
  |.norm|.ret=>finD (env o).P ro own fn.results.toList B.length σ k
  |_=>none
 |_,_=>none⟩
theorem q6i {enV:DOps→DEnv} {ro:Bool} {own:List Bool} {lend:Nat→Bool} {f:Nat} {fn:Func} (hs:(enV DOps.std).o=DOps.std) (hΓ:∀ f s,(enV DOps.std).spec f=some s→qbe (enV DOps.std).P f s.to) (hf:(enV DOps.std).P.funcs[f]? = some fn)
  (hc:∀ args w,(callFunc f args).run (enV DOps.std).P w=.ok (.enter f args) w):DH (enV DOps.std).P f (inlS enV ro own lend fn):=by
 generalize henv:enV DOps.std=env at *
 have hΓ':∀ f s,env.to.spec f=some s→qbe env.P f s:=fun f s h=>by
  have h:(env.spec f).map DSpec.to=some s:=h
  obtain⟨s',h1,rfl⟩:=Option.map_eq_some_iff.1 h
  exact hΓ f s' h1
 refine⟨?_⟩
 cases hown:own with
 |nil =>
  refine qcO.h ?_ rfl
  intro w im vals args k o a next Q him hKc hlen hrep hrun hnext
  obtain⟨R,K,r,hrun,hK⟩:=hrun
  rw[hc]
  show Calls env.P f vals w _
  have hrun:(match Nat.ble args.length fn.ntmps,fn.body with
   |true,some c=>den (enV DOps.std) c ⟨pad args fn.ntmps,[],qco [] 0 []⟩ fun e σ=>match e with
    |.norm|.ret=>finD (enV DOps.std).P ro [] fn.results.toList 0 σ K
    |_=>none
   |_,_=>none)=some r:=hrun
  rw[henv] at hrun
  split at hrun
  ·
   rename_i c hle hb
   have hle:=Nat.le_of_ble_eq_true hle
   have h0:=quW (fn:=fn) him hlen hrep hle
   refine calls_of_wp hf hb ?_
   refine qcb (sp:=env.spec) ⟨fun f s h=>(hΓ' f s h).n _,hKc,fun b hb=>⟨him b hb,fun e=>e⟩,⟨Nat.zero_le _,fun _ e=>False.elim e⟩,fun _ e=>by cases e⟩ c hs rfl rfl h0 hrun fun e σ' a' w' im' ρ' hk h'=>?_
   have key:finD env.P ro [] fn.results.toList 0 σ' K=some r→a'.defers=[]∧∃ v,(results fn a'.tmps).run env.P w'=.ok v w'∧next (a.put o.dst v) w':=fun hk=>by
    obtain⟨v,im3,ρ3,x,F',g1,g2,g3⟩:=qf8 h' (qk2 hK hk) him
    exact⟨h'.st.defers,v,g1,hnext _ _ _ _ _ _ g2 g3⟩
   cases e with
   |norm=>exact key hk
   |ret=>exact key hk
   |exit i=>cases hk
  ·
   cases hrun
 |cons b0 bs0 =>
  refine qmd.h ?_ (by show b0::bs0≠[];simp)
  intro w im ρ0 vals args B k o a next Q him hKc hnB hL hlen hrep hrun hnext
  obtain⟨R,K,r,hrun,hK⟩:=hrun
  rw[hc]
  show Calls env.P f vals w _
  have hrun:(match Nat.ble args.length fn.ntmps,fn.body with
   |true,some c=>den (enV DOps.std) c ⟨pad args fn.ntmps,[],qco (b0::bs0) 0 B⟩ fun e σ=>match e with
    |.norm|.ret=>finD (enV DOps.std).P ro (b0::bs0) fn.results.toList B.length σ K
    |_=>none
   |_,_=>none)=some r:=hrun
  have hL:Lent w im ρ0 (qco (b0::bs0) 0 B):=hL
  rw[henv] at hrun
  split at hrun
  ·
   rename_i c hle hb
   have hle:=Nat.le_of_ble_eq_true hle
   have h0:=qwI (fn:=fn) him hnB hL hlen hrep hle
   refine calls_of_wp hf hb ?_
   refine qcb (sp:=env.spec) ⟨fun f s h=>(hΓ' f s h).n _,hKc,fun b hb=>⟨him b hb,fun e=>by
    obtain⟨i,m,e⟩:=e
    exact hL.notim i b m e hb⟩,⟨Nat.zero_le _,fun _ _=>Nat.zero_le _⟩,fun _ e=>by cases e⟩ c hs rfl rfl h0 hrun fun e σ' a' w' im' ρ' hk h'=>?_
   have key:finD env.P ro (b0::bs0) fn.results.toList B.length σ' K=some r→a'.defers=[]∧∃ v,(results fn a'.tmps).run env.P w'=.ok v w'∧next (a.put o.dst v) w':=fun hk=>by
    obtain⟨v,im3,ρ3,x,bs,F',g1,g2,g3⟩:=qiW hnB hL h' (qob hK hk) him
    exact⟨h'.st.defers,v,g1,hnext _ _ _ _ _ _ _ g2 g3⟩
   cases e with
   |norm=>exact key hk
   |ret=>exact key hk
   |exit i=>cases hk
  ·
   cases hrun
end
end Go.Eng
