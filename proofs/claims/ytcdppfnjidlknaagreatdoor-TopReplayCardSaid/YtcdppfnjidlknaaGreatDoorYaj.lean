import Derived.Test.YtcdppfnjidlknaaGreatDoorYai
import Derived.KernelRfl
import Derived.Laws.BitsAllLaws
import Derived.Deep.Slices
import Derived.WalkKit
import Derived.ProofKit
import Derived.OpenShut
import Derived.ShutString
import Derived.ChangeOld
import Derived.Below
import Derived.Defers
import Derived.JoinedCond
import Derived.SizedLaws
import Derived.Laws.Externs
set_option linter.unusedVariables false
set_option linter.unusedSimpArgs false
namespace Go.Eng
open Go
theorem qbW {w:World}{im:Nat→Prop} {ρ ρ':Ids}{v:Value}{x:AV}(h:Rep w im ρ v x)(hx:qfv x=true):Rep w im ρ' v x :=
 (qor h hx).stable (fun _ _=>rfl) (fun _ h=>h) (fun _ _ h=>by simp[qai] at h) (fun _ _ _ _=>rfl)
section
variable {w0 w : World} {bor : Bor} {im0 im : Nat → Prop} {ρ : Ids} {σ : AS} {a : Act}
theorem qf7 {l:List (Nat×Nat×Bool)}(h:noGs l=true):l=[]:=by
 cases l with
 |nil=>rfl
 |cons _ _=>cases h
theorem SA.reblk {σ:AS} {ρ:Ids}(h:SA w0 bor im0 im ρ σ a w){i:Nat}{cs cs':List AV}(hl:lget σ.locs i=some (.cells cs))(hlen:cs'.length=cs.length)(hrep:∀ (j:Nat)(v:Value),Rep w im ρ v (nth cs j)→Rep w im ρ v (nth cs' j)):SA w0 bor im0 im ρ ⟨σ.slots,σ.gs,lset σ.locs i (.cells cs')⟩ a w:=by
 refine⟨{h.st with dom:=fun j hj=>?_,blk:=fun j b hj=>?_},h.uniq.lset i _⟩
 ·
  rw[qcK hl] at hj
  unfold upd at hj
  split at hj
  ·
   cases hj
  ·
   exact h.st.dom j hj
 ·
  rw[qcK hl] at hj
  unfold upd at hj
  split at hj
  ·
   rename_i e
   simp only[Option.some.injEq] at hj
   subst hj
   subst e
   obtain⟨ob,h1,b,cur,e,q1,q2,q3,q4,q5⟩:=h.st.blk _ _ hl
   exact⟨ob,h1,b,cur,e,q1,q2,by rw[hlen];exact q3,q4,fun j v hv=>hrep j v (q5 j v hv)⟩
  ·
   exact h.st.blk j b hj
theorem q6L (i j k:Nat):swp i j k=if k=i then j else if k=j then i else k:=by
 unfold swp
 split
 ·
  rename_i h;rw[if_pos (nbeq h)]
 ·
  rename_i h
  rw[if_neg (qbA h)]
  split
  ·
   rename_i h;rw[if_pos (nbeq h)]
  ·
   rename_i h;rw[if_neg (qbA h)]
theorem qhX (i j k:Nat):swp i j (swp i j k)=k:=by
 rw[q6L,q6L]
 by_cases h:k=i
 ·
  rw[if_pos h]
  by_cases h2:j=i
  ·
   rw[if_pos h2];omega
  ·
   rw[if_neg h2,if_pos rfl];omega
 ·
  rw[if_neg h]
  by_cases h2:k=j
  ·
   rw[if_pos h2,if_pos rfl];omega
  ·
   rw[if_neg h2,if_neg h,if_neg h2]
theorem quT {i j k l:Nat}(h:swp i j k=swp i j l):k=l:=by rw[← qhX i j k,h,qhX]
theorem swp_low {i j k:Nat}(hi:900≤i)(hj:900≤j)(hk:k<900):swp i j k=k:=by
 rw[q6L,if_neg (by omega),if_neg (by omega)]
theorem qiU (i j:Nat):∀ (L:Locs) (k:Nat),lget (qcp (swp i j) L) k=(lget L (swp i j k)).map (qiD (swp i j))
 | [],k=>rfl
 |(l,b)::r,k=>by
  unfold qcp lget
  cases h:Nat.beq (swp i j l) k with
  |true =>
   have e:=nbeq h
   subst e
   rw[qhX]
   have:Nat.beq l l=true:=Nat.beq_refl l
   rw[this];rfl
  |false =>
   have e:=qbA h
   have:Nat.beq l (swp i j k)=false:=by
    cases h2:Nat.beq l (swp i j k) with
    |false=>rfl
    |true =>
     have e2:=nbeq h2
     exact absurd (by rw[e2,qhX]) e
   rw[this]
   exact qiU i j r k
theorem quU (f:Nat→Nat):∀ (L:Locs),(qcp f L).map (·.1)=(L.map (·.1)).map f
 | []=>rfl
 |(k,b)::r=>by simp[qcp,quU f r]
theorem SA.swap {σ:AS} {ρ:Ids}(h:SA w0 bor im0 im ρ σ a w){i j:Nat}(hi:900≤i)(hj:900≤j):SA w0 bor im0 im (fun k=>ρ (swp i j k)) (σ.swap i j) a w:=by
 have hρ:∀ k x,ρ k=some x→(fun k=>ρ (swp i j k)) (swp i j k)=some x:=fun k x hk=>by dsimp only;rw[qhX];exact hk
 refine⟨{h.st with len:=by rw[h.st.len];show _=(renL _ _).length;rw[qaY,List.length_map],slot:=fun k v hv=>?_,dom:=fun k hk=>?_,blk:=fun k b hk=>?_,inj:=fun k l b m m' hk hl=>quT (h.st.inj _ _ b m m' hk hl),notim:=fun k b m hk=>h.st.notim _ b m hk,own:=fun k b m hk=>h.st.own _ b m hk,pin:=fun k x hlt hk=>h.st.pin k x hlt (by rw[← swp_low hi hj hlt];exact hk)},?_⟩
 ·
  have:=h.st.slot k v hv
  unfold SRep at this ⊢
  show match gget σ.gs k with|none=>Rep w im _ v (nth (renL (swp i j) σ.slots) k)|some (tc,wt)=>_
  rw[qaY,qag (by rfl)]
  split
  ·
   rename_i hg;rw[hg] at this;exact this.ren _ hρ
  ·
   rename_i tc wt hg
   rw[hg] at this
   refine⟨fun e=>?_,this.2⟩
   show Rep w im _ v (nth (renL (swp i j) σ.slots) k)
   rw[qaY,qag (by rfl)]
   exact(this.1 e).ren (swp i j) hρ
 ·
  have hk':lget (qcp (swp i j) σ.locs) k=none:=hk
  rw[qiU] at hk'
  exact h.st.dom _ (Option.map_eq_none_iff.1 hk')
 ·
  have hk':lget (qcp (swp i j) σ.locs) k=some b:=hk
  rw[qiU] at hk'
  obtain⟨b0,h1,h2⟩:=Option.map_eq_some_iff.1 hk'
  obtain⟨ob,h3,h4⟩:=h.st.blk _ _ h1
  refine⟨ob,h3,?_⟩
  subst h2
  have:=h4.ren (ρ2:=fun k=>ρ (swp i j k)) (swp i j) hρ
  cases b0<;>exact this
 ·
  show Uniq (qcp (swp i j) σ.locs)
  have hu:=h.uniq
  unfold Uniq at hu ⊢
  rw[quU]
  exact List.Pairwise.map _ (fun x y hxy e=>hxy (quT e)) hu
theorem q0A {σ:AS} {ρ:Ids}(h:SA w0 bor im0 im ρ σ a w)(i j:Nat):∃ ρ',SA w0 bor im0 im ρ' (σ.name i j) a w:=by
 unfold AS.name
 split
 ·
  exact⟨_,h⟩
 ·
  split
  ·
   rename_i hb
   simp only[Bool.and_eq_true] at hb
   exact⟨_,h.swap (Nat.le_of_ble_eq_true hb.1) (Nat.le_of_ble_eq_true hb.2)⟩
  ·
   exact⟨_,h⟩
theorem qbJ:∀ (l:List (Nat×Nat×Nat)) {σ:AS} {ρ:Ids} {im:Nat→Prop},SA w0 bor im0 im ρ σ a w→∃ im' ρ',SA w0 bor im0 im' ρ' (σ.box l) a w
 | [],σ,ρ,im,h=>⟨im,ρ,h⟩
 |(s,id,c)::r,σ,ρ,im,h=>by
  unfold AS.box
  split
  ·
   split
   ·
    rename_i b o hn
    split
    ·
     rename_i cs hcs
     split
     ·
      rename_i hnil
      split
      ·
       rename_i hb
       simp only[Bool.and_eq_true] at hb
       have hid:=qaJ hb.1
       have hst:=h.st.add hid (qbi hb.1) (ob:=(none,0)) (blk:=.row c []) ⟨rfl,.inl ⟨rfl,rfl⟩⟩ (fun b e=>by cases e)
       have hB:SA w0 bor im0 im (upd ρ id (some (none,0))) ⟨σ.slots,σ.gs,(id,.row c [])::σ.locs⟩ a w:=⟨by dsimp only;rw[qdK];exact hst,h.uniq.cons hid _⟩
       have hne:b≠id:=fun e=>by rw[e,hid] at hcs;cases hcs
       have hl:lget ((id,Blk.row c [])::σ.locs) b=some (.cells cs):=by
        rw[qdK]
        unfold upd
        rw[if_neg hne];exact hcs
       refine qbJ r (hB.reblk hl (by rw[qb7,List.length_set]) fun j v hv=>?_)
       rw[qb7,qao,List.getElem?_set]
       by_cases e:(s-1000000) % 100=j
       ·
        rw[if_pos e]
        rw[← e,hnil] at hv
        split
        ·
         rw[hv.inv_nilsl]
         exact .row0 (qbk _ _ _)
        ·
         exact .dead
       ·
        rw[if_neg e,← qao];exact hv
      ·
       exact qbJ r h
     ·
      split
      ·
       obtain⟨im1,ρ1,h1,-⟩:=h.freeze (i:=_)
       exact qbJ r h1
      ·
       obtain⟨ρ',h'⟩:=q0A h _ _
       exact qbJ r h'
     ·
      exact qbJ r h
    ·
     exact qbJ r h
   ·
    rename_i cs hn
    split
    ·
     rename_i hnil
     split
     ·
      rename_i hb
      simp only[Bool.and_eq_true] at hb
      have hid:=qaJ hb.1
      have hgs:=qf7 hb.2
      have hst:=h.st.add hid (qbi hb.1) (ob:=(none,0)) (blk:=.row c []) ⟨rfl,.inl ⟨rfl,rfl⟩⟩ (fun b e=>by cases e)
      have hB:SA w0 bor im0 im (upd ρ id (some (none,0))) ⟨σ.slots,σ.gs,(id,.row c [])::σ.locs⟩ a w:=⟨by dsimp only;rw[qdK];exact hst,h.uniq.cons hid _⟩
      refine qbJ r (hB.reslot (tc:=(s-1000000) / 100) (gs':=σ.gs) (fun _ _=>rfl) (by rw[hgs];rfl) fun v hv=>?_)
      have:=hB.st.slot _ v hv
      unfold SRep at this
      dsimp only at this
      rw[hgs] at this
      dsimp only[gget] at this
      rw[hn] at this
      obtain⟨vs,rfl,h1,h2,h3⟩:=this.inv_agg
      refine .agg (by rw[qb7,List.length_set];exact h1) h2 fun j u hj=>?_
      rw[qdD]
      split
      ·
       rename_i e
       have h4:=h3 j u hj
       rw[← e.1,hnil] at h4
       rw[h4.inv_nilsl]
       exact .row0 (qbk _ _ _)
      ·
       exact h3 j u hj
     ·
      exact qbJ r h
    ·
     split
     ·
      obtain⟨im1,ρ1,h1,-⟩:=h.freeze (i:=_)
      exact qbJ r h1
     ·
      obtain⟨ρ',h'⟩:=q0A h _ _
      exact qbJ r h'
    ·
     exact qbJ r h
   ·
    exact qbJ r h
  ·
   split
   ·
    rename_i hn
    split
    ·
     rename_i hb
     simp only[Bool.and_eq_true] at hb
     have hid:=qaJ hb.1
     have hgs:=qf7 hb.2
     have hst:=h.st.add hid (qbi hb.1) (ob:=(none,0)) (blk:=.row c []) ⟨rfl,.inl ⟨rfl,rfl⟩⟩ (fun b e=>by cases e)
     have hB:SA w0 bor im0 im (upd ρ id (some (none,0))) ⟨σ.slots,σ.gs,(id,.row c [])::σ.locs⟩ a w:=⟨by dsimp only;rw[qdK];exact hst,h.uniq.cons hid _⟩
     refine qbJ r (hB.reslot (tc:=s) (gs':=σ.gs) (fun _ _=>rfl) (by rw[hgs];rfl) fun v hv=>?_)
     have:=hB.st.slot s v hv
     unfold SRep at this
     dsimp only at this
     rw[hgs] at this
     dsimp only[gget] at this
     rw[hn] at this
     rw[this.inv_nilsl]
     exact .row0 (qbk _ _ _)
    ·
     exact qbJ r h
   ·
    split
    ·
     obtain⟨im1,ρ1,h1,-⟩:=h.freeze (i:=_)
     exact qbJ r h1
    ·
     obtain⟨ρ',h'⟩:=q0A h _ _
     exact qbJ r h'
   ·
    exact qbJ r h
def exOf:Ex→Exit
 |.norm=>.normal
 |.exit i=>.exit i
 |.ret=>.ret
theorem qiV {P:Program} {Q:Exit→Act→World→Prop} {c:Code} {V:Type} (I:V→Act→World→Prop) (μ:V→Nat) {a:Act} {w:World} (v0:V) (h₀:I v0 a w)
  (round:∀ v a w,I v a w→c.wp P (Exit.then (fun a' w'=>∃ v',I v' a' w'∧μ v'<μ v) Q) a w):(Code.loop c).wp P Q a w:=by
 intro b k cs
 have key:∀ n v a w,μ v=n→I v a w →
   ∃ e a' w',Q e a' w'∧Arrives P (lone (b.at a (.code c::.inLoop c::k)) cs w) b k cs e a' w':=by
  intro n
  induction n using Nat.strongRecOn with
  |_ n ih =>
   intro v a w hn hI
   obtain⟨e,a₁,w₁,hq,harr⟩:=round v a w hI b (.inLoop c::k) cs
   cases e with
   |normal =>
    obtain⟨v1,hI₁,hlt⟩:=hq
    obtain⟨e₂,a₂,w₂,hq₂,harr₂⟩:=ih (μ v1) (hn▸hlt) v1 a₁ w₁ rfl hI₁
    exact⟨e₂,a₂,w₂,hq₂,.of_steps (Steps.trans harr (.one step_inLoop)) harr₂⟩
   |exit id=>exact⟨_,a₁,w₁,hq,.pass (x:=.inLoop c) rfl (fun _ _=>.inl (by simp)) harr⟩
   |goto l=>exact⟨_,a₁,w₁,hq,.pass (x:=.inLoop c) rfl (fun _ _=>.inl (by simp)) harr⟩
   |ret=>exact⟨_,a₁,w₁,hq,.pass (x:=.inLoop c) rfl (fun _ _=>.inl (by simp)) harr⟩
   |panic ch=>exact⟨_,a₁,w₁,hq,.pass (x:=.inLoop c) rfl (fun _ _=>.inl (by simp)) harr⟩
   |outgrown=>exact⟨_,a₁,w₁,hq,.pass (x:=.inLoop c) rfl (fun _ _=>.inl (by simp)) harr⟩
 obtain⟨e,a',w',hq,harr⟩:=key _ v0 a w rfl h₀
 exact⟨e,a',w',hq,.of_steps (.one step_loop) harr⟩
end
end Go.Eng
namespace Go.Eng
open Go
section
variable {w0 w : World} {bor : Bor} {im0 im : Nat → Prop} {ρ : Ids} {σ : AS} {a : Act}
theorem qcN:∀ {l:List AV},qh9 l=true→∀ j,qrq (nth l j)=true
 | [],_,j=>rfl
 |x::r,h,j=>by
  simp only[qh9,Bool.and_eq_true] at h
  cases j with
  |zero=>exact h.1
  |succ j=>exact qcN h.2 j
theorem quV {im':Nat→Prop}{v:Value}{x:AV}(h:Rep w im ρ v x)(hc:qrq x=true):Rep w im' ρ v x:=by
 induction h with
 |int h=>exact .int h
 |bool=>exact .bool
 |str h=>exact .str h
 |nilptr=>exact .nilptr
 |nilsl=>exact .nilsl
 |nilfn=>exact .nilfn
 |sl0=>exact .sl0
 |emp=>exact .emp
 |sl hb hn hcap hm vals hcell hone hrep ih=>cases hc
 |iref hb ho vals hcell hone hrep ih=>cases hc
 |row0 h=>exact .row0 h
 |row h hle ho hn hm hs=>exact .row h hle ho hn hm hs
 |rowE h ho hm=>exact .rowE h ho hm
 |ptr h=>exact .ptr h
 |eptr h ho=>exact .eptr h ho
 |agg hl hone h ih=>exact .agg hl hone fun j v hj=>ih j v hj (qcN hc j)
 |tup hl h ih=>exact .tup hl fun j v hj=>ih j v hj (qcN hc j)
 |fn hl hl' h h' ih ih' =>
  simp only[qrq,Bool.and_eq_true] at hc
  exact .fn hl hl' (fun j v hj=>ih j v hj (qcN hc.1 j)) (fun j v hj=>ih' j v hj (qcN hc.2 j))
 |dead=>exact .dead
 |val=>exact .val
 |both h h'=>simp[qrq] at hc
 |wsl hn hm h0 h=>simp[qrq] at hc
 |wref=>simp[qrq] at hc
 |anyb h=>exact .anyb h
theorem q6M {c:Nat}(hc:scal c=true)(x:ty c)(j:Nat):qrq (nth (enc c x) j)=true:=by
 have:qh9 (enc c x)=true:=by
  match c,x,hc with
  |0,x,_=>rfl
  |1,x,_=>rfl
  |2,x,_=>rfl
  |3,x,_=>rfl
  |4,x,_=>rfl
  |5,x,_=>rfl
  |17,x,_=>rfl
  |18,x,_=>rfl
  |19,x,_=>rfl
  |20,x,_=>rfl
  |21,x,_=>rfl
  |22,x,_=>rfl
  |23,x,_=>rfl
 exact qcN this j
theorem qhY:∀ {F:List Blk},qhR F=true→∀ (j:Nat) (b:Blk),F[j]? = some b→match b with|.cells cs=>qh9 cs=true|.row c _=>scal c=true
 | [],_,j,b,h=>by simp at h
 |.cells cs::r,hf,j,b,h=>by
  simp only[qhR,Bool.and_eq_true] at hf
  cases j with
  |zero=>simp at h;subst h;exact hf.1
  |succ j=>exact qhY hf.2 j b (by simpa using h)
 |.row c _::r,hf,j,b,h=>by
  simp only[qhR,Bool.and_eq_true] at hf
  cases j with
  |zero=>simp at h;subst h;exact hf.1
  |succ j=>exact qhY hf.2 j b (by simpa using h)
theorem q6N {im':Nat→Prop}{ob:Option Nat×Nat}{b:Blk}(h:BRep w im ρ ob b)(hf:match b with|.cells cs=>qh9 cs=true|.row c _=>scal c=true):BRep w im' ρ ob b:=by
 cases b with
 |cells cs =>
  obtain⟨b,cur,e,q1,q2,q3,q4,q5⟩:=h
  exact⟨b,cur,e,q1,q2,q3,q4,fun j v hj=>quV (q5 j v hj) (qcN hf j)⟩
 |row c xs =>
  obtain⟨h1,h2⟩:=h
  refine⟨h1,h2.imp id ?_⟩
  rintro⟨b,cur,e,cap,q1,q2,q3,q4,q5,q6,q7⟩
  exact⟨b,cur,e,cap,q1,q2,q3,q4,q5,q6,fun i j x v hx hj hv=>quV (q7 i j x v hx hj hv) (q6M hf x j)⟩
theorem qkD {L:Locs}{l:List Nat}:∀ {m:List Nat} {F:List Blk},qrX L l m=some F→F.length=m.length ∧
  ∀ (j:Nat) (b:Blk),F[j]? = some b→∃ i,m[j]? = some i∧∃ b0,lget L i=some b0∧(match b0 with|.cells cs=>qbN l cs=true|.row _ _=>True) ∧
   b=match b0 with|.cells cs=>.cells (renL (fun i=>idx l i 0) cs)|.row c xs=>.row c xs
 | [],F,h=>by simp[qrX] at h;subst h;simp
 |i::r,F,h=>by
  unfold qrX at h
  split at h
  ·
   rename_i cs bs h1 h2
   split at h
   ·
    rename_i hcl
    simp only[Option.some.injEq] at h;subst h
    obtain⟨h3,h4⟩:=qkD h2
    refine⟨by simp[h3],fun j b hj=>?_⟩
    cases j with
    |zero=>simp at hj;subst hj;exact⟨i,rfl,_,h1,hcl,rfl⟩
    |succ j=>exact h4 j b (by simpa using hj)
   ·
    cases h
  ·
   rename_i c xs bs h1 h2
   simp only[Option.some.injEq] at h;subst h
   obtain⟨h3,h4⟩:=qkD h2
   refine⟨by simp[h3],fun j b hj=>?_⟩
   cases j with
   |zero=>simp at hj;subst hj;exact⟨i,rfl,_,h1,trivial,rfl⟩
   |succ j=>exact h4 j b (by simpa using hj)
  ·
   cases h
def q3c (tmps:Array Value):ResultVar→Sem Value
 |.tmp t=>pure (tmps.getD t undef)
 |.cell a t=>do loadVar t (← asAddr (tmps.getD a undef))
theorem q6O {P:Program} (h:SA w0 bor im0 im ρ σ a w) (hg:σ.gs=[]) {r:ResultVar} {x:AV} (hr:q2Q P σ r=some x) :
  ∃ v,(q3c a.tmps r).run P w=.ok v w∧Rep w im ρ v x:=by
 have ht:∀ t,Rep w im ρ (a.tmps.getD t undef) (nth σ.slots t):=fun t=>by
  have hr:=h.ev (g:=none) (fun _ _ e=>by cases e) (.tmp t)
  have e:σ.ev none (.tmp t)=nth σ.slots t:=by simp[AS.ev,AS.slot,hg,gget]
  rw[e] at hr
  exact hr
 cases r with
 |tmp t =>
  simp only[q2Q,Option.some.injEq] at hr
  subst hr
  exact⟨_,rfl,ht t⟩
 |cell t d =>
  unfold q2Q at hr
  dsimp only at hr
  ·
   split at hr
   ·
    rename_i v hl
    simp only[Option.some.injEq] at hr
    subst hr
    obtain⟨val,h1,h2⟩:=qrZ h.st.blk (ht t) hl trivial
    have h1:=h1 w (Agr.refl w)
    have hx:=ht t
    have:∃ ad,a.tmps.getD t undef=.pointer (some ad):=by
     generalize a.tmps.getD t undef=u at hx
     generalize nth σ.slots t=y at hx hl
     unfold qwL at hl
     split at hl
     ·
      obtain⟨b,m,-,rfl⟩:=hx.inv_ptr;exact⟨_,rfl⟩
     ·
      obtain⟨b,m,-,rfl⟩:=hx.inv_eptr;exact⟨_,rfl⟩
     ·
      cases hx;exact⟨_,rfl⟩
     ·
      clear hl;cases hx;exact⟨_,rfl⟩
     ·
      cases hl
    obtain⟨ad,he⟩:=this
    rw[he] at h1
    refine⟨val,?_,h2⟩
    show (do loadVar d (← asAddr (a.tmps.getD t undef)):Sem Value).run P w=_
    rw[he]
    simp only[Instr.loadAt,Instr.sureAddr,Sem.run_bind,Sem.run_pure,Result.andThen_ok] at h1
    simp only[asAddr,Sem.run_bind,Sem.run_pure,Result.andThen_ok,h1]
   ·
    cases hr
theorem q0B {P:Program}(h:SA w0 bor im0 im ρ σ a w)(hg:σ.gs=[]):∀ (l:List ResultVar) (vs:List AV),resL P σ l=some vs →
  ∃ us:List Value,(l.mapM (q3c a.tmps)).run P w=.ok us w∧us.length=vs.length∧∀ (j:Nat) (u:Value),us[j]? = some u→Rep w im ρ u (nth vs j)
 | [],vs,hr=>by
  simp only[resL,Option.some.injEq] at hr;subst hr
  exact⟨[],by simp,rfl,by simp⟩
 |r::l,vs,hr=>by
  unfold resL at hr
  split at hr
  ·
   rename_i x xs hx hxs
   simp only[Option.some.injEq] at hr;subst hr
   obtain⟨v,h1,h2⟩:=q6O h hg hx
   obtain⟨us,h3,h4,h5⟩:=q0B h hg l xs hxs
   refine⟨v::us,?_,by simp[h4],fun j u hu=>?_⟩
   ·
    simp only[List.mapM_cons,Sem.run_bind,h1,Result.andThen_ok,h3,Sem.run_pure]
   ·
    cases j with
    |zero=>simp at hu;subst hu;exact h2
    |succ j=>exact h5 j u (by simpa using hu)
  ·
   cases hr
theorem qkE {P:Program} {fn:Func} (h:SA w0 bor im0 im ρ σ a w) (hg:σ.gs=[]) {r:AV} (hr:qwQ P σ fn.results.toList=some r) :
  ∃ v,(results fn a.tmps).run P w=.ok v w∧Rep w im ρ v r:=by
 have hmap:∀ us,(fn.results.toList.mapM (q3c a.tmps)).run P w=.ok us w→(results fn a.tmps).run P w=.ok (if hs:us.toArray.size=1 then us.toArray[0] else .tuple us.toArray) w:=fun us hu=>by
  unfold results
  have e:(fn.results.mapM (m:=Sem) fun|.tmp t=>pure (a.tmps.getD t undef)|.cell b t=>do loadVar t (← asAddr (a.tmps.getD b undef)))=fn.results.mapM (q3c a.tmps):=by
   congr 1
  simp only[Sem.run_bind]
  refine(congrArg (fun s=>(Sem.run P s w).andThen _) e).trans ?_
  rw[Array.mapM_eq_mapM_toList]
  simp only[Sem.run_map,hu,Result.andThen_ok,Sem.run_pure]
  try rfl
 unfold qwQ at hr
 split at hr
 ·
  rename_i x hx
  simp only[Option.some.injEq] at hr;subst hr
  obtain⟨us,h1,h2,h3⟩:=q0B h hg _ _ hx
  match us,h2 with
  | [u],_=>exact⟨u,hmap _ h1,h3 0 u rfl⟩
 ·
  rename_i vs hne hx
  simp only[Option.some.injEq] at hr;subst hr
  obtain⟨us,h1,h2,h3⟩:=q0B h hg _ _ hx
  have hn1:¬ us.toArray.size=1:=fun e=>by
   have e:us.length=1:=by simpa using e
   rw[h2] at e
   obtain⟨x,rfl⟩:=List.length_eq_one_iff.1 e
   exact hne x rfl
  refine⟨_,hmap _ h1,?_⟩
  rw[dif_neg hn1]
  exact .tup (by simpa using h2) fun j v hj=>h3 j v (by simpa using hj)
 ·
  cases hr
theorem ifP_ok {b:Bool}{p:Prop}(h:ifP b p):b=true∧p:=by
 cases b with
 |true=>exact⟨rfl,h⟩
 |false=>exact h.elim
theorem qf8 {P:Program} {fn:Func} {ro:Bool} {k:AV→List (Option Blk)→List Blk→Prop}
  (h:SA w0 qiH im0 im ρ σ a w) (hv:q2R P ro σ fn.results.toList k) (him0:∀ b,im0 b→b<w0.heap.size) :
  ∃ v im' ρ' r F,(results fn a.tmps).run P w=.ok v w∧k r [] F∧Res ro w0 w im0 im' ρ' v r F:=by
 unfold q2R at hv
 split at hv
 ·
  rename_i r hr hg
  have hgs:=qf7 hg
  dsimp only at hv
  generalize hl:qfw σ.locs 1000 (ids r []) []=l at hv
  split at hv
  ·
   rename_i F hF
   obtain⟨hb,hk⟩:=ifP_ok hv
   simp only[Bool.and_eq_true] at hb
   obtain⟨⟨hnd,hcl⟩,hro⟩:=hb
   obtain⟨v,hres,hrep⟩:=qkE h hgs hr
   obtain⟨hFl,hF⟩:=qkD hF
   let ρ':Ids:=fun j=>(l[j]?).bind ρ
   have hren:∀ i x,qcf l ρ i=some x→ρ' (idx l i 0)=some x:=fun i x hx=>by
    obtain⟨h1,h2⟩:=qdi hx
    obtain⟨m,h3,h4⟩:=q3e 0 h2
    show (l[idx l i 0]?).bind ρ=some x
    rw[h3,Nat.zero_add,h4]
    exact h1
   have hρ':∀ j x,ρ' j=some x→∃ i,l[j]? = some i∧ρ i=some x:=fun j x hx=>by
    have hx:(l[j]?).bind ρ=some x:=hx
    cases e:l[j]? with
    |none=>rw[e] at hx;cases hx
    |some i=>rw[e] at hx;exact⟨i,rfl,hx⟩
   have hrep':=(qbw hrep hcl).ren _ hren
   have hblk:∀ (j:Nat) (b:Blk),F[j]? = some b→∃ ob,ρ' j=some ob∧BRep w im ρ' ob b:=fun j b hj=>by
    obtain⟨i,h1,b0,h2,h3,h4⟩:=hF j b hj
    obtain⟨ob,h5,h6⟩:=h.st.blk i b0 h2
    refine⟨ob,by show (l[j]?).bind ρ=some ob;rw[h1];exact h5,?_⟩
    rw[h4]
    have:BRep w im (qcf l ρ) ob b0:=by
     cases b0 with
     |cells cs =>
      obtain⟨b,cur,e,q1,q2,q3,q4,q5⟩:=h6
      exact⟨b,cur,e,q1,q2,q3,q4,fun j v hj=>qbw (q5 j v hj) (qaZ h3 j)⟩
     |row c xs=>exact h6
    cases b0<;>exact this.ren _ hren
   have hdom:∀ j,F[j]? = none→ρ' j=none:=fun j hj=>by
    show (l[j]?).bind ρ=none
    have:l[j]? = none:=by
     rw[List.getElem?_eq_none_iff] at hj ⊢
     omega
    rw[this];rfl
   have hinj:∀ i j b m m',ρ' i=some (some b,m)→ρ' j=some (some b,m')→i=j:=fun i j b m m' hi hj=>by
    obtain⟨i1,h1,h2⟩:=hρ' _ _ hi
    obtain⟨j1,h3,h4⟩:=hρ' _ _ hj
    have e:=h.st.inj _ _ _ _ _ h2 h4
    subst e
    exact(List.getElem?_inj (List.getElem?_eq_some_iff.1 h1).1 (qiZ hnd)).1 (h1.trans h3.symm)
   have hfresh:∀ i b m,ρ' i=some (some b,m)→w0.heap.size≤b:=fun i b m hi=>by
    obtain⟨i1,h1,h2⟩:=hρ' _ _ hi
    exact(h.st.own _ _ _ h2).resolve_right id
   have hbelow:RowKit.Below w0.heap.size w0 w:=⟨h.st.os,h.st.tape,h.st.output,h.st.size,fun b hb=>h.st.frame b hb id⟩
   cases ro with
   |false =>
    refine⟨v,im,ρ',_,F,hres,hk,?_⟩
    exact{below:=hbelow,imold:=fun _=>h.st.imold,imnew:=fun b hb=>(h.st.imnew b hb).elim (fun h1=>.inl ⟨rfl,h1⟩) (fun h1=>h1.elim (fun h2=>.inr ⟨h2,h.st.imlt b hb⟩) (fun h2=>h2.elim)),dom:=hdom,blk:=hblk,inj:=hinj,notim:=fun i b m hi=>by obtain⟨i1,h1,h2⟩:=hρ' _ _ hi;exact h.st.notim _ _ _ h2,fresh:=hfresh,rep:=hrep'}
   |true =>
    simp only[Bool.not_true,Bool.false_or,Bool.and_eq_true] at hro
    refine⟨v,fun _=>False,ρ',_,F,hres,hk,?_⟩
    exact{below:=hbelow,imold:=fun e=>(by cases e),imnew:=fun b hb=>hb.elim,dom:=hdom,blk:=fun j b hj=>by obtain⟨ob,h1,h2⟩:=hblk j b hj;have h3:=qhY hro.2 j b hj;exact⟨ob,h1,by cases b<;>exact q6N h2 h3⟩,inj:=hinj,notim:=fun i b m hi hb=>hb,fresh:=hfresh,rep:=(qbw (quV hrep hro.1) hcl).ren _ hren}
  ·
   exact hv.elim
 ·
  exact hv.elim
theorem qnj:∀ {l:List Nat} {i:Nat},i∈bigs l↔i∈l∧900≤i
 | [],i=>by simp[bigs]
 |j::r,i=>by
  have ih:=qnj (l:=r) (i:=i)
  unfold bigs
  split
  ·
   rename_i h
   have h:=Nat.le_of_ble_eq_true h
   rw[List.mem_cons,List.mem_cons,ih]
   constructor
   ·
    rintro(rfl|⟨h1,h2⟩)
    ·
     exact⟨.inl rfl,h⟩
    ·
     exact⟨.inr h1,h2⟩
   ·
    rintro⟨rfl|h1,h2⟩
    ·
     exact .inl rfl
    ·
     exact .inr ⟨h1,h2⟩
  ·
   rename_i h
   have h:¬ 900≤j:=fun e=>by rw[Nat.ble_eq_true_of_le e] at h;cases h
   rw[List.mem_cons,ih]
   constructor
   ·
    rintro⟨h1,h2⟩;exact⟨.inr h1,h2⟩
   ·
    rintro⟨rfl|h1,h2⟩
    ·
     exact absurd h2 h
    ·
     exact⟨h1,h2⟩
theorem qkF:∀ {l:List Nat},l.Nodup→(bigs l).Nodup
 | [],_=>List.nodup_nil
 |j::r,h=>by
  have h:=List.nodup_cons.1 h
  unfold bigs
  split
  ·
   exact List.nodup_cons.2 ⟨fun hm=>h.1 (qnj.1 hm).1,qkF h.2⟩
  ·
   exact qkF h.2
theorem qoy {L:Locs}{l:List Nat}{f:Nat→Nat}{own:List Bool}:∀ {n j:Nat} {bs:List (Option Blk)},q0t L l f own j n=some bs→bs.length=n ∧
  ∀ i,i<n→(nthB own (j+i)=true∧bs[i]? = some none)∨(nthB own (j+i)=false∧∃ b,bs[i]? = some (some b)∧blkG L l f (j+i)=some b)
 |0,j,bs,h=>by simp[q0t] at h;subst h;simp
 |n+1,j,bs,h=>by
  unfold q0t at h
  split at h
  ·
   rename_i ho
   split at h
   ·
    rename_i bs' h1
    simp only[Option.some.injEq] at h;subst h
    obtain⟨h2,h3⟩:=qoy h1
    refine⟨by simp[h2],fun i hi=>?_⟩
    cases i with
    |zero=>exact .inl ⟨ho,rfl⟩
    |succ i =>
     have:=h3 i (by omega)
     rw[show j+1+i=j+(i+1) by omega] at this
     simpa using this
   ·
    cases h
  ·
   rename_i ho
   split at h
   ·
    rename_i b bs' hb h1
    simp only[Option.some.injEq] at h;subst h
    obtain⟨h2,h3⟩:=qoy h1
    refine⟨by simp[h2],fun i hi=>?_⟩
    cases i with
    |zero=>exact .inr ⟨ho,b,rfl,hb⟩
    |succ i =>
     have:=h3 i (by omega)
     rw[show j+1+i=j+(i+1) by omega] at this
     simpa using this
   ·
    cases h
def borOf (ρ0:Ids):Bor:=⟨fun b=>∃ i m,ρ0 i=some (some b,m),ρ0,[]⟩
theorem qiW {P:Program} {fn:Func} {own:List Bool} {ρ0:Ids} {B:List Blk} {k:AV→List (Option Blk)→List Blk→Prop} (hnB:B.length≤100)
  (hL:Lent w0 im0 ρ0 (qco own 0 B)) (h:SA w0 (borOf ρ0) im0 im ρ σ a w) (hv:quD P own B.length σ fn.results.toList k) (him0:∀ b,im0 b→b<w0.heap.size) :
  ∃ v im' ρ' r bs F,(results fn a.tmps).run P w=.ok v w∧k r bs F∧ResB w0 w im0 im' ρ0 ρ' v r B.length bs F:=by
 unfold quD at hv
 split at hv
 ·
  rename_i r hr hg
  have hgs:=qf7 hg
  dsimp only at hv
  generalize hl:qfw σ.locs 1000 (pins own 0 B.length++ids r []) []=l at hv
  split at hv
  ·
   rename_i F bs hF hbs
   obtain⟨hb,hk⟩:=ifP_ok hv
   simp only[Bool.and_eq_true] at hb
   obtain⟨hnd,hcl⟩:=hb
   have hnd:=qiZ hnd
   obtain⟨v,hres,hrep⟩:=qkE h hgs hr
   obtain⟨hFl,hFg⟩:=qo5 hF
   obtain⟨hbl,hbg⟩:=qoy hbs
   have hpin:∀ i x,i<900→ρ i=some x→ρ0 i=some x∧i<B.length∧nthB own i=false:=fun i x hi hx=>by
    have h0:ρ0 i=some x:=h.st.pin i x hi hx
    have hne:lget (qco own 0 B) i≠none:=fun e=>by rw[hL.dom i e] at h0;cases h0
    rw[qgq _ _ _ _ (by omega),if_pos hi] at hne
    split at hne
    ·
     exact absurd rfl hne
    ·
     rename_i ho
     simp only[Nat.not_lt_zero,false_or] at ho
     refine⟨h0,?_,by simpa using ho⟩
     rcases Nat.lt_or_ge i B.length with g|g
     ·
      exact g
     ·
      rw[List.getElem?_eq_none (by simpa using g)] at hne;exact absurd rfl hne
   let ρ':Ids:=fun i=>if i<B.length then ρ i else ((bigs l)[i-B.length]?).bind ρ
   have hlt:∀ i,i<B.length→ρ' i=ρ i:=fun i hi=>by show (if i<B.length then ρ i else _)=_;rw[if_pos hi]
   have hge:∀ i,B.length≤i→ρ' i=((bigs l)[i-B.length]?).bind ρ:=fun i hi=>by show (if i<B.length then ρ i else _)=_;rw[if_neg (by omega)]
   have hf:∀ i x,qcf l ρ i=some x→ρ' (gnum B.length (bigs l) i)=some x:=fun i x hx=>by
    obtain⟨h1,h2⟩:=qdi hx
    unfold gnum
    split
    ·
     rename_i h9
     have h9:=Nat.le_of_ble_eq_true h9
     obtain⟨m,h3,h4⟩:=q3e 0 (qnj.2 ⟨h2,h9⟩)
     rw[h3,hge _ (by omega),show B.length+(0+m)-B.length=m by omega,h4]
     exact h1
    ·
     rename_i h9
     have h9:i<900:=by
      rcases Nat.lt_or_ge i 900 with g|g
      ·
       exact g
      ·
       rw[Nat.ble_eq_true_of_le g] at h9;cases h9
     rw[hlt _ (hpin i x h9 h1).2.1]
     exact h1
   have hbig:∀ i x,B.length≤i→ρ' i=some x→∃ i',(bigs l)[i-B.length]? = some i'∧ρ i'=some x∧900≤i':=fun i x hi hx=>by
    rw[hge i hi] at hx
    cases e:(bigs l)[i-B.length]? with
    |none=>rw[e] at hx;cases hx
    |some i'=>rw[e] at hx;exact⟨i',rfl,hx,(qnj.1 (List.mem_of_getElem? e)).2⟩
   refine⟨v,im,ρ',_,bs,F,hres,hk,?_⟩
   exact{
    size:=h.st.size
    os:=h.st.os
    tape:=h.st.tape
    output:=h.st.output
    frame:=fun b hb hn=>h.st.frame b hb fun⟨i,m,hi⟩=>hn i m hi
    shp:=fun b hb=>by
     rcases Classical.em (∃ i m,ρ0 i=some (some b,m)) with e|e
     ·
      exact h.st.shp b e
     ·
      exact qbj (h.st.frame b hb e)
    imold:=h.st.imold
    imlt:=h.st.imlt
    imnew:=h.st.imnew
    len:=hbl
    dom:=fun i hi=>by
     unfold LR at hi
     split at hi
     ·
      rename_i hlt'
      rw[hlt i hlt']
      rcases hbg i hlt' with ⟨g1,g2⟩|⟨g1,b,g2,g3⟩
      ·
       cases hx:ρ i with
       |none=>rfl
       |some x =>
        have:=(hpin i x (by omega) hx).2.2
        rw[Nat.zero_add] at g1
        rw[g1] at this;cases this
      ·
       rw[g2] at hi;cases hi
     ·
      rename_i hge'
      rw[hge i (by omega)]
      have:(bigs l)[i-B.length]? = none:=by
       rw[List.getElem?_eq_none_iff] at hi ⊢
       omega
      rw[this];rfl
    blk:=fun i b hi=>by
     unfold LR at hi
     split at hi
     ·
      rename_i hlt'
      rcases hbg i hlt' with ⟨g1,g2⟩|⟨g1,b',g2,g3⟩
      ·
       rw[g2] at hi;cases hi
      ·
       rw[g2] at hi
       simp only[Option.join_some,Option.some.injEq] at hi
       subst hi
       rw[Nat.zero_add] at g3
       obtain⟨ob,g4,g5⟩:=q0G (ρ2:=ρ') g3 (fun b hb=>h.st.blk i b hb) hf
       exact⟨ob,by rw[hlt i hlt'];exact g4,g5⟩
     ·
      rename_i hge'
      obtain⟨i',g1,g2⟩:=hFg _ b hi
      obtain⟨ob,g4,g5⟩:=q0G (ρ2:=ρ') g2 (fun b hb=>h.st.blk i' b hb) hf
      exact⟨ob,by rw[hge i (by omega),g1];exact g4,g5⟩
    pin:=fun i x hi hx=>by
     rw[hlt i hi] at hx
     exact(hpin i x (by omega) hx).1
    inj:=fun i j b m m' hi hj=>by
     rcases Nat.lt_or_ge i B.length with g|g<;>rcases Nat.lt_or_ge j B.length with g'|g'
     ·
      rw[hlt i g] at hi;rw[hlt j g'] at hj
      exact h.st.inj _ _ _ _ _ hi hj
     ·
      rw[hlt i g] at hi
      obtain⟨j',e1,e2,e3⟩:=hbig j _ g' hj
      have:=h.st.inj _ _ _ _ _ hi e2
      omega
     ·
      rw[hlt j g'] at hj
      obtain⟨i',e1,e2,e3⟩:=hbig i _ g hi
      have:=h.st.inj _ _ _ _ _ hj e2
      omega
     ·
      obtain⟨i',e1,e2,e3⟩:=hbig i _ g hi
      obtain⟨j',e4,e5,e6⟩:=hbig j _ g' hj
      have:=h.st.inj _ _ _ _ _ e2 e5
      subst this
      have:=(List.getElem?_inj (List.getElem?_eq_some_iff.1 e1).1 (qkF hnd)).1 (e1.trans e4.symm)
      omega
    notim:=fun i b m hi=>by
     rcases Nat.lt_or_ge i B.length with g|g
     ·
      rw[hlt i g] at hi;exact h.st.notim _ _ _ hi
     ·
      obtain⟨i',e1,e2,e3⟩:=hbig i _ g hi
      exact h.st.notim _ _ _ e2
    fresh:=fun i b m hi=>by
     have key:∀ i',ρ i'=some (some b,m)→w0.heap.size≤b∨∃ j m',ρ0 j=some (some b,m'):=fun i' h1=>h.st.own _ _ _ h1
     rcases Nat.lt_or_ge i B.length with g|g
     ·
      rw[hlt i g] at hi;exact key _ hi
     ·
      obtain⟨i',e1,e2,e3⟩:=hbig i _ g hi
      exact key _ e2
    rep:=(qbw hrep hcl).ren _ hf}
  ·
   exact hv.elim
 ·
  exact hv.elim
theorem quW {w:World} {im:Nat→Prop} {fn:Func} {args:List AV} {vals:Array Value} (him:∀ b,im b→b<w.heap.size) (hlen:vals.size=args.length)
  (hrep:∀ (j:Nat) (v:Value),vals[j]? = some v→Rep w im qai v (nth args j)) (hle:args.length≤fn.ntmps) :
  SA w qiH im im qai ⟨pad args fn.ntmps,[],[]⟩ {tmps:=vals++Array.replicate (fn.ntmps-vals.size) undef,defers:=[]} w:=by
 have hpad:(pad args fn.ntmps).length=fn.ntmps:=by simp[pad];omega
 refine⟨⟨rfl,by simp[hpad];omega,fun i v hi=>?_,fun _ _=>rfl,fun _ _ e=>(by cases e),fun _ _ _ _ _ e=>(by cases e),fun _ _ _ e=>(by cases e),him,fun _ h=>h,fun _ h=>.inl h,fun _ _ _ e=>(by cases e),fun _ _ _ e=>(by cases e),fun _ e=>(by cases e),fun _ e=>(by cases e),rfl,rfl,rfl,Nat.le_refl _,fun _ _ _=>rfl⟩,List.nodup_nil⟩
 show Rep w im qai v (nth (pad args fn.ntmps) i)
 dsimp only at hi
 rw[Array.getElem?_append] at hi
 unfold pad
 rw[qao]
 split at hi
 ·
  rename_i h1
  rw[List.getElem?_append_left (by omega),← qao]
  exact hrep i v hi
 ·
  rename_i h1
  rw[List.getElem?_append_right (by omega)]
  rw[Array.getElem?_replicate] at hi
  split at hi
  ·
   rename_i h2
   simp only[Option.some.injEq] at hi;subst hi
   rw[List.getElem?_replicate,if_pos (by omega)]
   exact qaW
  ·
   cases hi
end
def mkG:Nat→Nat→List (Nat×AV)→List AV
 |0,_,_=>[]
 |n+1,i,[]=>.dead::mkG n (i+1) []
 |n+1,i,(j,a)::r=>match Nat.beq i j with
  |true=>a::mkG n (i+1) r
  |false=>.dead::mkG n (i+1) ((j,a)::r)
def mk (n:Nat)(l:List (Nat×AV)):List AV:=mkG n 0 l
end Go.Eng
namespace Go.Eng
open Go
end Go.Eng
namespace Go.Eng
open Go
theorem qc5 {P:Program}{f:FuncId}{args:Array Value}{w:World}{R R':Ending→World→Prop}(h:Calls P f args w R)(hR:∀ e w',R e w'→R' e w'):Calls P f args w R' :=
 fun cs=>let ⟨e,w',fr,h1,h2⟩:=h cs;⟨e,w',fr,hR _ _ h1,h2⟩
theorem qrs {P:Program} {f:FuncId} {s:Spec} (h:qbe P f s) (hc:∀ args w,(callFunc f args).run P w=.ok (.enter f args) w) {w:World} {vals:Array Value} {args:List AV}
  (hsz:vals.size=args.length) (hrep:∀ (j:Nat) (v:Value),vals[j]? = some v→Rep w (· < w.heap.size) qai v (nth args j)) (hrun:s.run args [] (fun r _ _=>r=.bool true)) (hown:s.own=[]:=by rfl) (hK:Kc w (· < w.heap.size):=by exact trivial) :
  Calls P f vals w fun e w'=>e=.returned (.bool true)∧RowKit.Below w.heap.size w w':=by
 have:=h.a hown w (· < w.heap.size) vals args (fun r _ _=>r=.bool true) {(default:Oper) with dst:=some 0} {tmps:=#[undef],defers:=[]}
  (fun a' w'=>a'.tmps[0]? = some (.bool true)∧RowKit.Below w.heap.size w w') (fun _ _ _=>False) (fun _ h=>h) hK hsz hrep hrun
  (fun v w' im' ρ' r F hk hres=>by
   subst hk
   have:=hres.rep.inv_bool
   subst this
   exact⟨rfl,hres.below⟩)
 rw[hc] at this
 refine qc5 (this:Calls P f vals w _) fun e w' he=>?_
 cases e with
 |returned v =>
  obtain⟨h1,h2⟩:=he
  have:(#[undef].setIfInBounds 0 v)[0]? = some (Value.bool true):=h1
  simp at this
  exact⟨by rw[this],h2⟩
 |panicked c=>exact he.elim
 |outgrown=>obtain⟨_,_,h⟩:=he;exact h.elim
end Go.Eng
namespace Go.Eng
open Go Go.ChangeShapes
theorem q3d (b off i:Nat):Addr.add ⟨b,off,none⟩ i=⟨b,off+i,none⟩:=by
 unfold Addr.add
 split
 ·
  rename_i h;subst h;rfl
 ·
  rfl
theorem arr1 {α:Type}{cs:Array α}(h:cs.size=1):∃ a,cs=#[a]:=by
 rcases cs with ⟨l⟩
 match l,h with
 | [a],_=>exact⟨a,rfl⟩
theorem arr3 {α:Type}{cs:Array α}(h:cs.size=3):∃ a b c,cs=#[a,b,c]:=by
 rcases cs with ⟨l⟩
 match l,h with
 | [a,b,c],_=>exact⟨a,b,c,rfl⟩
theorem qxh {H:Type} {enc:TypeId×Value→H} {P:Program} {w:World} {base base':Nat} {r:Reach} {held:Bool} {fuel:Nat} {t:TypeId} {v:Value} {x:DataW H×List MemPlace} {fs:Array Field}
  (ht:P.underlying t=some (.struct fs)) (hn:P.cellsOf t=fs.size) (hs:(fs.toList.zipIdx.all fun x=>decide (x.1.offset=x.2)&&decide (P.cellsOf x.1.type=1))=true) (hok:Value.okWide P w r base t v)
  (h:DataW.trod enc P w base' (fun _=>true) held fuel t v.cells.toList=some x) :
  ∃ cs:Array Value,v=.agg cs∧cs.size=fs.size∧∀ (i:Nat) (f:Field) (c:Value),fs[i]? = some f→cs[i]? = some c→∃ n y,DataW.trod enc P w base' (fun _=>true) held n f.type [c]=some y:=by
 obtain⟨cs,rfl,hsz⟩:=Go.WideShapes.okWide_struct ht hok
 obtain⟨xs,n,-,-,-,hlen,hf⟩:=DataW.trod_struct ht h
 refine⟨cs,rfl,hsz.trans hn,fun i f c hi hc=>?_⟩
 have h1:=hf i f hi
 have hlt:i<fs.size:=by
  rcases Nat.lt_or_ge i fs.size with h|h
  ·
   exact h
  ·
   rw[Array.getElem?_eq_none h] at hi;cases hi
 have h2:f.offset=i∧P.cellsOf f.type=1:=by
  have:=List.all_eq_true.1 hs (f,i) (by
   rw[List.mem_iff_getElem?]
   exact⟨i,by simpa using hi⟩)
  simpa using this
 rw[h2.1,h2.2] at h1
 have h3:((Value.agg cs).cells.toList.drop i).take 1=[c]:=by
  have e:(Value.agg cs).cells=cs:=rfl
  rw[e]
  have hi2:i<cs.toList.length:=by simp;omega
  rw[List.drop_eq_getElem_cons hi2,List.take_succ_cons,List.take_zero]
  have:cs.toList[i]? = some c:=by simpa using hc
  rw[List.getElem?_eq_getElem hi2] at this
  simpa using this
 rw[h3] at h1
 obtain⟨y,hy⟩:∃ y,xs[i]? = some y:=⟨xs[i]'(by omega),List.getElem?_eq_getElem _⟩
 exact⟨n,y,h1.trans hy⟩
end Go.Eng
namespace Go.Eng
open Go
def nilB:AV→AV
 |.nilsl=>.sl 0 []
 |x=>x
theorem nilB_rep {w:World}{im:Nat→Prop} {ρ:Ids}{v:Value}{x:AV}(h:Rep w im ρ v x):Rep w im ρ v (nilB x):=by
 unfold nilB
 split
 ·
  rw[h.inv_nilsl];exact .sl0
 ·
  exact h
theorem qbe.nil {P:Program} {f:FuncId} {s:Spec} (h:qbe P f s) (hown:s.own=[]:=by rfl):qbe P f {s with run:=fun args B k=>s.run (args.map nilB) B k}:=by
 refine qcO.h ?_ hown
 intro w im vals args k o a next Q him hKc hlen hrep hrun hnext
 refine h.a hown w im vals (args.map nilB) k o a next Q him hKc (by simpa using hlen) (fun j v hj=>?_) hrun hnext
 rw[qag rfl]
 exact nilB_rep (hrep j v hj)
end Go.Eng
namespace Go.Eng
open Go
def qxk (env:Env)(all:List Oper):List Oper→Nat→AS→(AS→Prop)→Prop
 | [],_,σ,k=>k σ
 |o::rest,id,σ,k=>qrr env all o id σ fun σ'=>qxk env all rest (id+1) σ' k
def qf9:List Oper→Option (List Oper×Oper)
 | []=>none
 | [o]=>some ([],o)
 |o::r=>match qf9 r with
  |some (p,x)=>some (o::p,x)
  |none=>none
def q0E:Code→Option (Nat×Array Oper×List Oper×Oper×Call)
 |.region id ops false=>match qf9 ops.toList with
  |some (p,o)=>match o.op,o.guard with
   |.defer c,none=>some (id,ops,p,o,c)
   |_,_=>none
  |none=>none
 |_=>none
def pinS:Nat→List Nat→AS→AS
 |_,[],σ=>σ
 |n,i::r,σ=>pinS (n+1) r (σ.swap i n)
def pinV:Nat→List Nat→List AV→List AV
 |_,[],l=>l
 |n,i::r,l=>pinV (n+1) r (renL (swp i n) l)
def keepP (L:Locs):AV→AV
 |.ptr i o=>match lget L i,Nat.blt i 900 with
  |some _,true=>.ptr i o
  |_,_=>.dead
 |.int k n=>.int k n
 |.bool b=>.bool b
 |.str s=>.str s
 |.nilptr=>.nilptr
 |.nilsl=>.nilsl
 |.nilfn=>.nilfn
 |_=>.dead
def qbP (L:Locs):List AV→List AV
 | []=>[]
 |x::r=>keepP L x::qbP L r
def qo3:Locs→Bool
 | []=>true
 |(i,_)::r=>Nat.ble 900 i&&qo3 r
theorem qmb:∀ {l p:List Oper} {o:Oper},qf9 l=some (p,o)→l=p++[o]
 | [],_,_,h=>by cases h
 | [x],p,o,h=>by
  simp only[qf9,Option.some.injEq,Prod.mk.injEq] at h
  obtain⟨rfl,rfl⟩:=h
  rfl
 |x::y::r,p,o,h=>by
  unfold qf9 at h
  split at h
  ·
   rename_i q z hq
   simp only[Option.some.injEq,Prod.mk.injEq] at h
   obtain⟨rfl,rfl⟩:=h
   rw[qmb hq];rfl
  ·
   cases h
section
variable {w0 w : World} {bor : Bor} {im0 im : Nat → Prop} {ρ : Ids} {σ : AS} {a : Act}
theorem qmc {env:Env}(hΓ:Gam env.P env.spec env.yw w0 bor im0){ops:Array Oper}{Q:Exit→Act→World→Prop}{k:AS→Prop}{tail:List Oper}:∀ (rest:List Oper) (id:Nat) {σ:AS} {a:Act} {w:World} {im:Nat→Prop} {ρ:Ids},SA w0 bor im0 im ρ σ a w→qxk env ops.toList rest id σ k→(∀ σ' a' w' im' ρ',k σ'→SA w0 bor im0 im' ρ' σ' a' w'→wpList env.P ops Q tail a' w')→wpList env.P ops Q (rest++tail) a w
 | [],id,σ,a,w,im,ρ,h,hv,hn=>hn _ _ _ _ _ hv h
 |o::rest,id,σ,a,w,im,ρ,h,hv,hn=>by
  unfold qxk at hv
  rw[List.cons_append]
  unfold wpList
  have:=qhV (ops:=ops) (Q:=Q) (next:=wpList env.P ops Q (rest++tail)) hΓ h hv fun σ' a' w' im' ρ' hk h' _=>qmc hΓ rest _ h' hk hn
  split
  ·
   rename_i hw
   rw[if_pos hw] at this
   exact .inl this
  ·
   rename_i hw
   rw[if_neg hw] at this
   exact this
theorem SA.swapB (h:SA w0 bor im0 im ρ σ a w)(i j:Nat):SA w0 ⟨bor.mem,fun k=>ρ (swp i j k),bor.dfs⟩ im0 im (fun k=>ρ (swp i j k)) (σ.swap i j) a w:=by
 have hρ:∀ k x,ρ k=some x→(fun k=>ρ (swp i j k)) (swp i j k)=some x:=fun k x hk=>by dsimp only;rw[qhX];exact hk
 refine⟨⟨h.st.defers,by rw[h.st.len];show _=(renL _ _).length;rw[qaY,List.length_map],fun k v hv=>?_,fun k hk=>?_,fun k b hk=>?_,fun k l b m m' hk hl=>quT (h.st.inj _ _ b m m' hk hl),fun k b m hk=>h.st.notim _ b m hk,h.st.imlt,h.st.imold,h.st.imnew,fun k b m hk=>h.st.own _ b m hk,fun k x hlt hk=>hk,h.st.shp,h.st.blt,h.st.os,h.st.tape,h.st.output,h.st.size,h.st.frame⟩,?_⟩
 ·
  have:=h.st.slot k v hv
  unfold SRep at this ⊢
  show match gget σ.gs k with|none=>Rep w im _ v (nth (renL (swp i j) σ.slots) k)|some (tc,wt)=>_
  rw[qaY,qag (by rfl)]
  split
  ·
   rename_i hg;rw[hg] at this;exact this.ren _ hρ
  ·
   rename_i tc wt hg
   rw[hg] at this
   refine⟨fun e=>?_,this.2⟩
   show Rep w im _ v (nth (renL (swp i j) σ.slots) k)
   rw[qaY,qag (by rfl)]
   exact(this.1 e).ren (swp i j) hρ
 ·
  have hk':lget (qcp (swp i j) σ.locs) k=none:=hk
  rw[qiU] at hk'
  exact h.st.dom _ (Option.map_eq_none_iff.1 hk')
 ·
  have hk':lget (qcp (swp i j) σ.locs) k=some b:=hk
  rw[qiU] at hk'
  obtain⟨b0,h1,h2⟩:=Option.map_eq_some_iff.1 hk'
  obtain⟨ob,h3,h4⟩:=h.st.blk _ _ h1
  refine⟨ob,h3,?_⟩
  subst h2
  have:=h4.ren (ρ2:=fun k=>ρ (swp i j k)) (swp i j) hρ
  cases b0<;>exact this
 ·
  show Uniq (qcp (swp i j) σ.locs)
  have hu:=h.uniq
  unfold Uniq at hu ⊢
  rw[quU]
  exact List.Pairwise.map _ (fun x y hxy e=>hxy (quT e)) hu
theorem SA.pinned (h:SA w0 bor im0 im ρ σ a w):SA w0 ⟨bor.mem,ρ,bor.dfs⟩ im0 im ρ σ a w :=
 ⟨⟨h.st.defers,h.st.len,h.st.slot,h.st.dom,h.st.blk,h.st.inj,h.st.notim,h.st.imlt,h.st.imold,h.st.imnew,h.st.own,fun _ _ _ hk=>hk,h.st.shp,h.st.blt,h.st.os,h.st.tape,h.st.output,h.st.size,h.st.frame⟩,h.uniq⟩
theorem q0F:∀ (l:List Nat) (n:Nat) {bor:Bor} {ρ:Ids} {σ:AS},SA w0 bor im0 im ρ σ a w→∃ ρ',SA w0 ⟨bor.mem,ρ',bor.dfs⟩ im0 im ρ' (pinS n l σ) a w ∧
  ∀ (vs:Array Value) (xs:List AV),(∀ (j:Nat) (v:Value),vs[j]? = some v→Rep w im ρ v (nth xs j))→∀ (j:Nat) (v:Value),vs[j]? = some v→Rep w im ρ' v (nth (pinV n l xs) j)
 | [],n,bor,ρ,σ,h=>⟨ρ,h.pinned,fun _ _ hr=>hr⟩
 |i::r,n,bor,ρ,σ,h=>by
  obtain⟨ρ',h1,h2⟩:=q0F r (n+1) (h.swapB i n)
  refine⟨ρ',h1,fun vs xs hr=>h2 vs _ fun j v hj=>?_⟩
  rw[qaY,qag (by rfl)]
  exact(hr j v hj).ren _ fun k x hk=>by rw[qhX];exact hk
theorem qxl {w':World} {im':Nat→Prop} {ρ':Ids} {pin:Ids} {L:Locs} {v:Value} {x:AV} (h:Rep w im ρ v x) (h1:∀ i x,i<900→ρ i=some x→pin i=some x) (h2:∀ i x,i<900→ρ' i=some x→pin i=some x)
  (hL:∀ i b,lget L i=some b→∃ x,ρ' i=some x):Rep w' im' ρ' v (keepP L x):=by
 cases x with
 |ptr i o =>
  unfold keepP
  dsimp only
  split
  ·
   rename_i b hl hlt
   have hlt:i<900:=by simpa [Nat.blt,Nat.succ_le_iff] using hlt
   obtain⟨y,hy⟩:=hL i _ hl
   obtain⟨b,m,hb,rfl⟩:=h.inv_ptr
   have e1:=h1 i _ hlt hb
   have e2:=h2 i _ hlt hy
   rw[e1] at e2
   simp only[Option.some.injEq] at e2
   subst e2
   exact .ptr hy
  ·
   exact .dead
 |int k n=>rw[h.inv_int.1];exact .int h.inv_int.2
 |bool b=>rw[h.inv_bool];exact .bool
 |str s=>rw[h.inv_str.1];exact .str h.inv_str.2
 |nilptr=>rw[h.inv_nilptr];exact .nilptr
 |nilsl=>rw[h.inv_nilsl];exact .nilsl
 |nilfn=>cases h;exact .nilfn
 |sl c xs=>exact .dead
 |iref c x o=>exact .dead
 |row c i o n=>exact .dead
 |eptr c i x o=>exact .dead
 |agg l=>exact .dead
 |tup l=>exact .dead
 |fn f a b=>exact .dead
 |dead=>exact .dead
 |val=>exact .dead
 |both=>exact .dead
 |wsl=>exact .dead
 |wref=>exact .dead
 |anyb=>exact .dead
 |cond b w v=>exact .dead
theorem qdL (L:Locs):∀ (l:List AV),qbP L l=l.map (keepP L)
 | []=>rfl
 |x::r=>by rw[qbP,qdL L r];rfl
theorem qsg:∀ {L:Locs},qo3 L=true→∀ i b,lget L i=some b→900≤i
 | [],_,i,b,h=>by cases h
 |(j,x)::r,hL,i,b,h=>by
  simp only[qo3,Bool.and_eq_true] at hL
  unfold lget at h
  split at h
  ·
   rename_i e
   have:=nbeq e
   subst this
   exact Nat.le_of_ble_eq_true hL.1
  ·
   exact qsg hL.2 i b h
theorem q4P {c:Code}{id:Nat}{ops:Array Oper}{p:List Oper}{o:Oper}{cl:Call}(h:q0E c=some (id,ops,p,o,cl)):c=.region id ops false∧ops.toList=p++[o]∧o.op=.defer cl∧o.guard=none:=by
 unfold q0E at h
 split at h
 ·
  rename_i id' ops'
  split at h
  ·
   rename_i p' o' hs
   split at h
   ·
    rename_i c' ho hg
    simp only[Option.some.injEq,Prod.mk.injEq] at h
    obtain⟨rfl,rfl,rfl,rfl,rfl⟩:=h
    exact⟨rfl,qmb hs,ho,hg⟩
   ·
    cases h
  ·
   cases h
 ·
  cases h
theorem slot_pad {args:List AV} {vals:Array Value} {n:Nat} {w:World} {im:Nat→Prop} {ρ:Ids} (hlen:vals.size=args.length) (hle:args.length≤n) (hrep:∀ (j:Nat) (v:Value),vals[j]? = some v→Rep w im ρ v (nth args j)) (i:Nat) (v:Value)
  (hi:(vals++Array.replicate (n-vals.size) undef)[i]? = some v):Rep w im ρ v (nth (pad args n) i):=by
 rw[Array.getElem?_append] at hi
 unfold pad
 rw[qao]
 split at hi
 ·
  rename_i h1
  rw[List.getElem?_append_left (by omega),← qao]
  exact hrep i v hi
 ·
  rename_i h1
  rw[List.getElem?_append_right (by omega)]
  rw[Array.getElem?_replicate] at hi
  split at hi
  ·
   rename_i h2
   simp only[Option.some.injEq] at hi;subst hi
   rw[List.getElem?_replicate,if_pos (by omega)]
   exact qaW
  ·
   cases hi
end
end Go.Eng
namespace Go.Eng
open Go Go.ChangeShapes
section
variable {H : Type} {enc' : TypeId × Value → H} {P : Program} {w : World} {base : Nat} {held : Bool}
def qbp (enc':TypeId×Value→H)(P:Program)(w:World)(base:Nat)(held:Bool)(c:Nat)(Z:DataW H→ty c→Prop)(e:TypeId):Prop :=
 ∀ (n:Nat) (cs:List Value) (y:DataW H×List MemPlace),DataW.trod enc' P w base (fun _=>true) held n e cs=some y →
  ∃ x:ty c,Z y.1 x∧cs.length=szOf c∧∀ (j:Nat) (v:Value),cs[j]? = some v→v.oneCell'=true∧Rep w (· < w.heap.size) qai v (nth (enc c x) j)
theorem cell_ltS {w:World}{a:Addr}{v:Value}(h:w.cell? a=some v):a.block<w.heap.size∧a.spot=none:=by
 unfold World.cell? at h
 split at h
 ·
  rename_i c t f hb
  split at h
  ·
   cases h
  ·
   rename_i hs
   refine⟨(Array.getElem?_eq_some_iff.1 hb).1,?_⟩
   cases hsp:a.spot with
   |none=>rfl
   |some x=>simp[hsp] at hs
 ·
  cases h
theorem szpos:∀ c:Nat,c<28→0<szOf c:=by decide
def ZAll {α:Type}(Z:DataW H→α→Prop):List (DataW H)→List α→Prop
 | [],[]=>True
 |d::l,x::r=>Z d x∧ZAll Z l r
 |_,_=>False
theorem q3h {α:Type}{Z:DataW H→α→Prop}{D:Nat→DataW H}{X:Nat→α}:∀ (l:List Nat),(∀ i∈l,Z (D i) (X i))→ZAll Z (l.map D) (l.map X)
 | [],_=>trivial
 |i::l,h=>⟨h i (List.mem_cons_self ..),q3h l fun j hj=>h j (List.mem_cons_of_mem _ hj)⟩
def DSz {α:Type}(Z:DataW H→α→Prop)(d:DataW H)(xs:List α):Prop:=xs=[]∨∃ el sp,d=.slice el sp∧ZAll Z el xs
def Z0 {α:Type}(d:DataW H)(x:α):Prop:=True
theorem qa9 {c:Nat} {Z:DataW H→ty c→Prop} (hc:c<28) {t e:TypeId} {fuel:Nat} {cs:List Value} {x:DataW H×List MemPlace} (ht:P.underlying t=some (.slice e)) (hsz:P.cellsOf e=szOf c) (hel:qbp enc' P w base held c Z e)
  (h:DataW.trod enc' P w base (fun _=>true) held fuel t cs=some x):∃ (v:Value) (xs:List (ty c)),cs=[v]∧v.oneCell'=true∧Rep w (· < w.heap.size) qai v (.sl c xs)∧DSz Z x.1 xs:=by
 rcases Go.Deep.open_slice ht h with ⟨rfl,rfl⟩|⟨a,len,cap,m,n,D,Pl,rfl,hb,hl,hm,hmm,rfl,hV⟩
 ·
  exact⟨_,[],rfl,rfl,.sl0,.inl rfl⟩
 ·
  have hmm:m=cap:=by simpa using hmm
  subst hmm
  rcases Nat.eq_zero_or_pos m with h0|h0
  ·
   subst h0
   obtain rfl:len=0:=by omega
   exact⟨_,[],rfl,rfl,.emp,.inl rfl⟩
  ·
   have pos:=szpos c hc
   rw[hsz] at hV
   have hx:∀ i,∃ x:ty c,i<m→Z (D i) x∧∀ j,j<szOf c→∃ v,w.cell? ((a.add (i*szOf c)).add j)=some v∧v.oneCell'=true∧Rep w (· < w.heap.size) qai v (nth (enc c x) j):=by
    intro i
    by_cases hi:i<m
    ·
     obtain⟨cs',h1,h2⟩:=hV i hi
     obtain⟨x,hz,hxl,hx⟩:=hel _ _ _ h2
     obtain⟨-,h4,h5⟩:=World.cells?_some h1
     refine⟨x,fun _=>⟨hz,fun j hj=>?_⟩⟩
     have hj':j<cs'.length:=by omega
     obtain⟨o,r⟩:=hx j _ (List.getElem?_eq_getElem hj')
     exact⟨cs'[j],by rw[h5 j hj,List.getElem?_eq_getElem hj'],o,r⟩
    ·
     exact⟨dflt c,fun h=>absurd h hi⟩
   let X:Nat→ty c:=fun i=>Classical.choose (hx i)
   have hX0:∀ i,i<m→Z (D i) (X i):=fun i hi=>(Classical.choose_spec (hx i) hi).1
   have hX:∀ i,i<m→∀ j,j<szOf c→∃ v,w.cell? ((a.add (i*szOf c)).add j)=some v∧v.oneCell'=true∧Rep w (· < w.heap.size) qai v (nth (enc c (X i)) j):=fun i hi=>(Classical.choose_spec (hx i) hi).2
   have hv:∀ i j,∃ v:Value,i<m→j<szOf c→w.cell? ((a.add (i*szOf c)).add j)=some v∧v.oneCell'=true∧Rep w (· < w.heap.size) qai v (nth (enc c (X i)) j):=by
    intro i j
    by_cases hi:i<m
    ·
     by_cases hj:j<szOf c
     ·
      obtain⟨v,hv⟩:=hX i hi j hj
      exact⟨v,fun _ _=>hv⟩
     ·
      exact⟨.nilFunc,fun _ h=>absurd h hj⟩
    ·
     exact⟨.nilFunc,fun h=>absurd h hi⟩
   let V:Nat→Nat→Value:=fun i j=>Classical.choose (hv i j)
   have hVV:∀ i j,i<m→j<szOf c→w.cell? ((a.add (i*szOf c)).add j)=some (V i j)∧(V i j).oneCell'=true∧Rep w (· < w.heap.size) qai (V i j) (nth (enc c (X i)) j):=fun i j=>Classical.choose_spec (hv i j)
   have hlt:=cell_ltS (hVV 0 0 h0 pos).1
   obtain⟨b,off,spot⟩:=a
   have hab:(Addr.add (Addr.add ⟨b,off,spot⟩ (0*szOf c)) 0)=⟨b,off,spot⟩:=by simp[Addr.add]
   rw[hab] at hlt
   dsimp only at hlt
   obtain⟨hlt,hsp⟩:=hlt
   subst hsp
   refine⟨_,(List.range len).map X,rfl,rfl,.sl hlt (by simp) hl hm V (fun i j hi hj=>?_) (fun i j hi hj=>?_) (fun i j x hx hj=>?_),.inr ⟨_,_,rfl,q3h _ fun i hi=>hX0 i (by have:=List.mem_range.1 hi;omega)⟩⟩
   ·
    simp only[List.length_map,List.length_range] at hi
    have:=(hVV i j (by omega) hj).1
    rw[q3d,q3d] at this
    exact this
   ·
    simp only[List.length_map,List.length_range] at hi
    exact(hVV i j (by omega) hj).2.1
   ·
    have hi:i<len:=by
     rcases Nat.lt_or_ge i len with h|h
     ·
      exact h
     ·
      rw[List.getElem?_eq_none (by simpa using h)] at hx;cases hx
    rw[List.getElem?_map,List.getElem?_range hi] at hx
    simp only[Option.map_some,Option.some.injEq] at hx
    subst hx
    exact(hVV i j (by omega) hj).2.2
theorem qgr {e:TypeId}(he:P.underlying e=some (.int .u8)):qbp enc' P w base held 0 Z0 e:=fun n cs y h=>by
 obtain⟨a,rfl,-,hw⟩:=DataW.trod_int he h
 have hk:kwf .u8 a:=by simpa [Lit.wf,kwf] using hw
 refine⟨UInt8.ofNat a.toNat,trivial,rfl,fun j v hv=>?_⟩
 match j,hv with
 |0,hv =>
  cases hv
  refine⟨rfl,?_⟩
  show Rep w _ qai (.int .u8 a) (.int .u8 ((UInt8.ofNat a.toNat).toNat:Int))
  rw[qxb hk];exact .int hk
theorem qxm {e:TypeId}(he:P.underlying e=some (.int .i64)):qbp enc' P w base held 1 Z0 e:=fun n cs y h=>by
 obtain⟨a,rfl,-,hw⟩:=DataW.trod_int he h
 have hk:kwf .i64 a:=by simpa [Lit.wf,kwf] using hw
 refine⟨a,trivial,rfl,fun j v hv=>?_⟩
 match j,hv with
 |0,hv =>
  cases hv
  exact⟨rfl,.int hk⟩
theorem q6U {e:TypeId}(he:P.underlying e=some (.int .u32)):qbp enc' P w base held 2 Z0 e:=fun n cs y h=>by
 obtain⟨a,rfl,-,hw⟩:=DataW.trod_int he h
 have hk:kwf .u32 a:=by simpa [Lit.wf,kwf] using hw
 refine⟨UInt32.ofNat a.toNat,trivial,rfl,fun j v hv=>?_⟩
 match j,hv with
 |0,hv =>
  cases hv
  refine⟨rfl,?_⟩
  show Rep w _ qai (.int .u32 a) (.int .u32 ((UInt32.ofNat a.toNat).toNat:Int))
  rw[qon hk];exact .int hk
theorem cells_bytes {t e:TypeId}(ht:P.underlying t=some (.slice e))(he:P.underlying e=some (.int .u8))(hsz:P.cellsOf e=1):qbp enc' P w base held 6 (DSz Z0) t:=fun n cs y h=>by
 obtain⟨v,xs,rfl,ho,hr,hz⟩:=qa9 (c:=0) (by decide) ht hsz (qgr he) h
 refine⟨xs,hz,rfl,fun j u hv=>?_⟩
 match j,hv with
 |0,hv=>cases hv;exact⟨ho,hr⟩
theorem q4Q {t e:TypeId}(ht:P.underlying t=some (.slice e))(he:P.underlying e=some (.int .i64))(hsz:P.cellsOf e=1):qbp enc' P w base held 7 (DSz Z0) t:=fun n cs y h=>by
 obtain⟨v,xs,rfl,ho,hr,hz⟩:=qa9 (c:=1) (by decide) ht hsz (qxm he) h
 refine⟨xs,hz,rfl,fun j u hv=>?_⟩
 match j,hv with
 |0,hv=>cases hv;exact⟨ho,hr⟩
def ZMsg (d:DataW H)(m:Msg):Prop:=∃ d0 d1 d2,d=.agg [d0,d1,d2]∧DSz Z0 d2 m.body
theorem q4R {t e:TypeId}(ht:P.underlying t=some (.slice e))(hsz:P.cellsOf e=3)(hel:qbp enc' P w base held 8 ZMsg e):qbp enc' P w base held 11 (DSz ZMsg) t:=fun n cs y h=>by
 obtain⟨v,xs,rfl,ho,hr,hz⟩:=qa9 (c:=8) (by decide) ht hsz hel h
 refine⟨xs,hz,rfl,fun j u hv=>?_⟩
 match j,hv with
 |0,hv=>cases hv;exact⟨ho,hr⟩
theorem q6V {t t1 t2 t3 t4:TypeId} {fs:Array Field} (ht:P.underlying t=some (.struct fs)) (hsz:P.cellsOf t=3) (hfs:(fs.toList.map fun f=>(f.offset,f.type))=[(0,t1),(1,t2),(2,t3)]) (h1:P.underlying t1=some (.int .u8)) (h2:P.underlying t2=some (.int .u32)) (h3:P.underlying t3=some (.slice t4)) (h4:P.underlying t4=some (.int .u8))
  (z1:P.cellsOf t1=1) (z2:P.cellsOf t2=1) (z3:P.cellsOf t3=1) (z4:P.cellsOf t4=1):qbp enc' P w base held 8 ZMsg t:=fun n cs y h=>by
 obtain⟨xs,m,-,rfl,hl,hlen,hf⟩:=DataW.trod_struct ht h
 rw[hsz] at hl
 match cs,hl with
 | [c0,c1,c2],_ =>
  have fsz:fs.size=3:=by have:=congrArg List.length hfs;simpa using this
  have hget:∀ i (p:Nat×TypeId),[(0,t1),(1,t2),(2,t3)][i]? = some p→∃ f:Field,fs[i]? = some f∧f.offset=p.1∧f.type=p.2:=fun i p hp=>by
   rw[← hfs,List.getElem?_map] at hp
   obtain⟨f,hf,rfl⟩:=Option.map_eq_some_iff.1 hp
   exact⟨f,by simpa using hf,rfl,rfl⟩
  have field:∀ i (p:Nat×TypeId),[(0,t1),(1,t2),(2,t3)][i]? = some p→∃ y',xs[i]? = some y'∧DataW.trod enc' P w base (fun _=>true) held m p.2 (([c0,c1,c2].drop p.1).take (P.cellsOf p.2))=some y':=fun i p hp=>by
   obtain⟨f,hf1,hf2,hf3⟩:=hget i p hp
   have:=hf i f hf1
   rw[hf2,hf3] at this
   have hi:i<xs.length:=by
    have:i<fs.size:=by
     rcases Nat.lt_or_ge i fs.size with h|h
     ·
      exact h
     ·
      rw[Array.getElem?_eq_none h] at hf1;cases hf1
    omega
   exact⟨xs[i],List.getElem?_eq_getElem hi,by rw[this,List.getElem?_eq_getElem hi]⟩
  obtain⟨y0,g0,h0⟩:=field 0 (0,t1) rfl
  obtain⟨y1,g1,hh1⟩:=field 1 (1,t2) rfl
  obtain⟨y2,g2,hh2⟩:=field 2 (2,t3) rfl
  dsimp only at h0 hh1 hh2
  rw[z1] at h0
  rw[z2] at hh1
  rw[z3] at hh2
  obtain⟨a0,e0,-,w0⟩:=DataW.trod_int h1 h0
  obtain⟨a1,e1,-,w1⟩:=DataW.trod_int h2 hh1
  obtain⟨v,bs,e2,ho,hr,hz⟩:=qa9 (c:=0) (by decide) h3 z4 (qgr h4) hh2
  simp at e0 e1 e2
  subst e0;subst e1;subst e2
  have k0:kwf .u8 a0:=by simpa [Lit.wf,kwf] using w0
  have k1:kwf .u32 a1:=by simpa [Lit.wf,kwf] using w1
  have hxs:xs=[y0,y1,y2]:=by
   match xs,(by omega:xs.length=3),g0,g1,g2 with
   | [a,b,c],_,g0,g1,g2=>simp at g0 g1 g2;rw[g0,g1,g2]
  refine⟨⟨UInt8.ofNat a0.toNat,UInt32.ofNat a1.toNat,bs⟩,⟨y0.1,y1.1,y2.1,by rw[hxs];rfl,hz⟩,rfl,fun j u hv=>?_⟩
  match j,hv with
  |0,hv =>
   cases hv
   refine⟨rfl,?_⟩
   show Rep w _ qai (.int .u8 a0) (.int .u8 ((UInt8.ofNat a0.toNat).toNat:Int))
   rw[qxb k0];exact .int k0
  |1,hv =>
   cases hv
   refine⟨rfl,?_⟩
   show Rep w _ qai (.int .u32 a1) (.int .u32 ((UInt32.ofNat a1.toNat).toNat:Int))
   rw[qon k1];exact .int k1
  |2,hv =>
   cases hv
   exact⟨ho,hr⟩
  |j+3,hv=>simp at hv
def ZPlan (d:DataW H)(m:Plan):Prop:=∃ d0 d1 d2,d=.agg [d0,d1,d2]∧DSz Z0 d2 m.splits
theorem q4S {t t1 t2 t3 t4:TypeId} {fs:Array Field} (ht:P.underlying t=some (.struct fs)) (hsz:P.cellsOf t=3) (hfs:(fs.toList.map fun f=>(f.offset,f.type))=[(0,t1),(1,t2),(2,t3)]) (h1:P.underlying t1=some (.int .i64)) (h2:P.underlying t2=some (.int .i64)) (h3:P.underlying t3=some (.slice t4)) (h4:P.underlying t4=some (.int .i64))
  (z1:P.cellsOf t1=1) (z2:P.cellsOf t2=1) (z3:P.cellsOf t3=1) (z4:P.cellsOf t4=1):qbp enc' P w base held 10 ZPlan t:=fun n cs y h=>by
 obtain⟨xs,m,-,rfl,hl,hlen,hf⟩:=DataW.trod_struct ht h
 rw[hsz] at hl
 match cs,hl with
 | [c0,c1,c2],_ =>
  have fsz:fs.size=3:=by have:=congrArg List.length hfs;simpa using this
  have hget:∀ i (p:Nat×TypeId),[(0,t1),(1,t2),(2,t3)][i]? = some p→∃ f:Field,fs[i]? = some f∧f.offset=p.1∧f.type=p.2:=fun i p hp=>by
   rw[← hfs,List.getElem?_map] at hp
   obtain⟨f,hf,rfl⟩:=Option.map_eq_some_iff.1 hp
   exact⟨f,by simpa using hf,rfl,rfl⟩
  have field:∀ i (p:Nat×TypeId),[(0,t1),(1,t2),(2,t3)][i]? = some p→∃ y',xs[i]? = some y'∧DataW.trod enc' P w base (fun _=>true) held m p.2 (([c0,c1,c2].drop p.1).take (P.cellsOf p.2))=some y':=fun i p hp=>by
   obtain⟨f,hf1,hf2,hf3⟩:=hget i p hp
   have:=hf i f hf1
   rw[hf2,hf3] at this
   have hi:i<xs.length:=by
    have:i<fs.size:=by
     rcases Nat.lt_or_ge i fs.size with h|h
     ·
      exact h
     ·
      rw[Array.getElem?_eq_none h] at hf1;cases hf1
    omega
   exact⟨xs[i],List.getElem?_eq_getElem hi,by rw[this,List.getElem?_eq_getElem hi]⟩
  obtain⟨y0,g0,h0⟩:=field 0 (0,t1) rfl
  obtain⟨y1,g1,hh1⟩:=field 1 (1,t2) rfl
  obtain⟨y2,g2,hh2⟩:=field 2 (2,t3) rfl
  dsimp only at h0 hh1 hh2
  rw[z1] at h0
  rw[z2] at hh1
  rw[z3] at hh2
  obtain⟨a0,e0,-,w0⟩:=DataW.trod_int h1 h0
  obtain⟨a1,e1,-,w1⟩:=DataW.trod_int h2 hh1
  obtain⟨v,bs,e2,ho,hr,hz⟩:=qa9 (c:=1) (by decide) h3 z4 (qxm h4) hh2
  simp at e0 e1 e2
  subst e0;subst e1;subst e2
  have k0:kwf .i64 a0:=by simpa [Lit.wf,kwf] using w0
  have k1:kwf .i64 a1:=by simpa [Lit.wf,kwf] using w1
  have hxs:xs=[y0,y1,y2]:=by
   match xs,(by omega:xs.length=3),g0,g1,g2 with
   | [a,b,c],_,g0,g1,g2=>simp at g0 g1 g2;rw[g0,g1,g2]
  refine⟨⟨a0,a1,bs⟩,⟨y0.1,y1.1,y2.1,by rw[hxs];rfl,hz⟩,rfl,fun j u hv=>?_⟩
  match j,hv with
  |0,hv =>
   cases hv
   exact⟨rfl,.int k0⟩
  |1,hv =>
   cases hv
   exact⟨rfl,.int k1⟩
  |2,hv =>
   cases hv
   exact⟨ho,hr⟩
  |j+3,hv=>simp at hv
end
end Go.Eng
namespace Go.Eng
open Go Go.ChangeShapes
theorem q6W {H:Type} {enc':TypeId×Value→H} {P:Program} {w:World} {base base':Nat} {held:Bool} {r:Reach} {c:Nat} {Z:DataW H→ty c→Prop} (hc:c<28) {t e:TypeId} {fuel:Nat} {v:Value} {x:DataW H×List MemPlace} (ht:P.underlying t=some (.slice e)) (hsz:P.cellsOf e=szOf c) (hel:qbp enc' P w base' held c Z e)
  (hok:Value.okWide P w r base t v) (h:DataW.trod enc' P w base' (fun _=>true) held fuel t v.cells.toList=some x):∃ xs:List (ty c),Rep w (· < w.heap.size) qai v (.sl c xs)∧DSz Z x.1 xs:=by
 obtain⟨a,len,cap,rfl⟩:=Go.WideShapes.okWide_slice ht hok
 obtain⟨v,xs,e,-,hr,hd⟩:=qa9 hc ht hsz hel h
 simp[Value.cells] at e
 subst e
 exact⟨xs,hr,hd⟩
end Go.Eng
namespace Go.Eng
open Go
end Go.Eng
namespace Go.Eng
open Go
theorem qbD.holds {P:Program}{f:FuncId}{s:Spec}(h:qbD 0 P f s)(hown:s.own=[]):qbe P f s:=qcO.h (fun w=>h.a hown w (Nat.zero_le _)) hown
end Go.Eng
namespace Go.Eng
open Go
end Go.Eng
namespace Go.Eng
open Go
end Go.Eng
namespace Go.Eng
open Go
end Go.Eng
namespace Go.Eng
open Go
end Go.Eng
namespace Go.Eng
open Go
theorem quY {H:Type} {α:Type}{Z:DataW H→α→Prop}:∀ (el:List (DataW H)) (xs:List α),ZAll Z el xs→el.length=xs.length
 | [],[],_=>rfl
 |_::el,_::xs,h=>by rw[List.length_cons,List.length_cons,quY el xs h.2]
 | [],_::_,h=>h.elim
 |_::_,[],h=>h.elim
end Go.Eng
namespace Go.Eng
open Go
end Go.Eng
namespace Go.Eng
open Go
end Go.Eng
namespace Go.Eng
open Go
section
variable {P : Program} {code : TypeId → Nat} {own : FuncId → Option Spec} {inl : FuncId → Option Func} {ro : FuncId → Bool} {lo : FuncId → List Bool} {ln : FuncId → Nat → Bool} {fuel : Nat}
end
end Go.Eng
