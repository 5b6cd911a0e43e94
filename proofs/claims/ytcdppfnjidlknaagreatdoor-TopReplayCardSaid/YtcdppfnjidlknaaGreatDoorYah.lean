import Derived.Test.YtcdppfnjidlknaaGreatDoorYag
set_option linter.unusedVariables false
set_option linter.unusedSimpArgs false
namespace Go.Eng
open Go
section
variable {w0 : World} {bor : Bor} {im0 im : Nat → Prop} {ρ : Ids} {sl : List AV} {gs : List (Nat × Nat × Bool)} {L : Nat → Option Blk} {σ : AS} {a : Act} {w : World}
theorem BRep.stableC {w w':World} {im im':Nat→Prop} {ρ ρ':Ids} {ob:Option Nat×Nat} {b:Blk} (h:BRep w im ρ ob b)
  (hw:∀ b o,im b→w'.cell? ⟨b,o,none⟩=w.cell? ⟨b,o,none⟩) (him:∀ b,im b→im' b) (hρ:∀ i x,ρ i=some x→ρ' i=some x)
  (hs:∀ i b m,ρ i=some (some b,m)→w'.shape? b=w.shape? b) (hz:∀ b o x,im b→w.cell? ⟨b,o,none⟩=some x→w.frozen? ⟨b,o,none⟩=false→w'.frozen? ⟨b,o,none⟩=false) (hb:∀ x,ob.1=some x→w'.heap[x]? = w.heap[x]?):BRep w' im' ρ' ob b:=by
 cases b with
 |cells cs =>
  obtain⟨b,cur,e,h1,h2,h3,h4,h5⟩:=h
  exact⟨b,cur,e,h1,(hb b h1).trans h2,h3,h4,fun j v hj=>(h5 j v hj).stableC hw him hρ hs hz⟩
 |row c xs =>
  obtain⟨h0,h⟩:=h
  refine⟨h0,h.imp id ?_⟩
  rintro⟨b,cur,e,cap,h1,h2,h3,h4,h5,h6,h7⟩
  exact⟨b,cur,e,cap,h1,(hb b h1).trans h2,h3,h4,h5,h6,fun i j x v hx hj hv=>(h7 i j x v hx hj hv).stableC hw him (fun _ _ h=>h) (fun _ _ _ h=>by simp[qai] at h) hz⟩
theorem St.mark (h:St w0 bor im0 im ρ sl gs L a w) {b:Nat} {w':World} (hkeep:∀ x,x≠b→w'.heap[x]? = w.heap[x]?) (hcell:∀ o,w'.cell? ⟨b,o,none⟩=w.cell? ⟨b,o,none⟩) (hfz:∀ o x,w.cell? ⟨b,o,none⟩=some x→w.frozen? ⟨b,o,none⟩=false→w'.frozen? ⟨b,o,none⟩=false) (hshape:w'.shape? b=w.shape? b) (hρ:∀ i m,ρ i≠some (some b,m)) (hown:w0.heap.size≤b∨bor.mem b)
  (hos:w'.os=w.os) (ht:w'.tape=w.tape) (ho:w'.output=w.output) (hsz:w.heap.size≤w'.heap.size):St w0 bor im0 im ρ sl gs L a w':=by
 have h1:∀ x o,im x→w'.cell? ⟨x,o,none⟩=w.cell? ⟨x,o,none⟩:=fun x o hx=>by
  by_cases e:x=b
  ·
   subst e;exact hcell o
  ·
   exact World.cell?_of_block (w:=w) (hkeep x e)
 have h3:∀ x o y,im x→w.cell? ⟨x,o,none⟩=some y→w.frozen? ⟨x,o,none⟩=false→w'.frozen? ⟨x,o,none⟩=false:=fun x o y hx hc hf=>by
  by_cases e:x=b
  ·
   subst e;exact hfz o y hc hf
  ·
   have e2:w'.frozen? ⟨x,o,none⟩=w.frozen? ⟨x,o,none⟩:=by simp only[World.frozen?,hkeep x e]
   rw[e2];exact hf
 have h2:∀ j x m',ρ j=some (some x,m')→w'.shape? x=w.shape? x:=fun j x m' hx=>qbj (hkeep x (by rintro rfl;exact hρ _ _ hx))
 exact{h with
  slot:=fun j v hv=>by
   have hs:=h.slot j v hv
   unfold SRep at hs ⊢
   split
   ·
    rename_i hg;rw[hg] at hs;exact hs.stableC h1 (fun _ h=>h) (fun _ _ h=>h) h2 h3
   ·
    rename_i tc wt hg
    rw[hg] at hs
    exact⟨fun e=>(hs.1 e).stableC h1 (fun _ h=>h) (fun _ _ h=>h) h2 h3,hs.2⟩
  blk:=fun j b' hb'=>by
   obtain⟨ob,h5,h4⟩:=h.blk j b' hb'
   refine⟨ob,h5,h4.stableC h1 (fun _ h=>h) (fun _ _ h=>h) h2 h3 (fun x hx=>hkeep x ?_)⟩
   rintro rfl
   obtain⟨o1,o2⟩:=ob
   dsimp only at hx
   subst hx
   exact hρ _ _ h5
  imlt:=fun b hb=>Nat.lt_of_lt_of_le (h.imlt b hb) hsz
  os:=hos.trans h.os
  tape:=ht.trans h.tape
  output:=ho.trans h.output
  size:=Nat.le_trans h.size hsz
  shp:=fun x hx=>by
   by_cases e:x=b
   ·
    subst e;exact hshape.trans (h.shp x hx)
   ·
    exact(qbj (hkeep x e)).trans (h.shp x hx)
  frame:=fun x hx hn=>by
   refine(hkeep x ?_).trans (h.frame x hx hn)
   rintro rfl
   rcases hown with h5|h5
   ·
    omega
   ·
    exact hn h5}
theorem qbv (w:World)(b n:Nat)(k:Nat)(x:Nat)(hx:x≠b):(w.freeze ⟨b,n,none⟩ k).heap[x]? = w.heap[x]?:=by
 unfold World.freeze
 split
 ·
  rfl
 ·
  simp[Array.getElem?_modify,Ne.symm hx]
theorem qhU (w:World)(b n k o:Nat):(w.freeze ⟨b,n,none⟩ k).cell? ⟨b,o,none⟩=w.cell? ⟨b,o,none⟩:=by
 unfold World.freeze
 split
 ·
  rfl
 ·
  simp only[World.cell?,Array.getElem?_modify]
  cases h:w.heap[b]? with
  |none=>simp
  |some ob=>cases ob<;>simp
theorem qiS (w:World)(b o:Nat)(cur:Array Value)(e:TypeId)(hh:w.heap[b]? = some (.cells cur e (0,0)))(x:Value)(hc:w.cell? ⟨b,o,none⟩=some x):(w.freeze ⟨b,cur.size,none⟩ 1).frozen? ⟨b,o,none⟩=false:=by
 have ho:o<cur.size:=by
  simp only[World.cell?,hh] at hc
  simp at hc
  exact qf0 hc
 unfold World.freeze
 rw[if_neg (by decide)]
 simp only[World.frozen?,Array.getElem?_modify,hh]
 simp
 omega
theorem qlZ (w:World)(b n k x:Nat):(w.freeze ⟨b,n,none⟩ k).shape? x=w.shape? x:=by
 by_cases hx:x=b
 ·
  subst hx
  unfold World.freeze
  split
  ·
   rfl
  ·
   simp only[World.shape?,Array.getElem?_modify,if_pos]
   cases h:w.heap[x]? with
   |none=>simp
   |some ob=>cases ob<;>simp
 ·
  simp[World.shape?,qbv w b n k x hx]
theorem qoq (w:World)(b n k:Nat):(w.freeze ⟨b,n,none⟩ k).heap.size=w.heap.size:=by
 unfold World.freeze
 split<;>simp
theorem quS {env:Env} (h:SA w0 bor im0 im ρ σ a w) {o:Oper} {s d:TypeId} {x:Operand} (ho:o.op=.convert s d x) {id:Nat} {k:AS→Prop} {next:Act→World→Prop} {Q:Exit→Act→World→Prop} {g:Gd}
  (hg:GdOK a g) (hv:eop env σ g o id k) (hn:Then (qb9 env) w o w0 bor im0 k next):o.wp env.P a w next Q:=by
 unfold eop at hv
 rw[ho] at hv
 dsimp only at hv
 split at hv
 ·
  rename_i e e' c i o' n hs hd hx hcl
  split at hv
  ·
   rename_i hsd hu8' hu8
   have hsd:=nbeq hsd
   subst hsd
   split at hv
   ·
    rename_i c' xs hl
    split at hv
    ·
     rename_i hcc
     have hcc:=nbeq hcc
     subst hcc
     obtain⟨hpos,hv⟩:=qcL hv
     have hv:=qsa hv
     have hr:=h.ev hg x
     rw[hx] at hr
     obtain⟨im',ρ',h',hsub,habs,hfz,hkρ⟩:=h.freeze i
     have hr':=hfz _ _ hr
     rw[hl] at hr'
     have hbe:Nat.beq i i=true:=Nat.beq_refl i
     have hce:Nat.beq c c=true:=Nat.beq_refl c
     simp only[frz,hbe,hce] at hr'
     obtain⟨b,off,cap,m,hav,hρb⟩:∃ b off cap m,a.eval x=.slice (some ⟨b,off,none⟩) n cap∧ρ i=some (some b,m):=by
      generalize a.eval x=u at hr
      cases hr with
      |row0=>omega
      |row h1=>exact⟨_,_,_,_,rfl,h1⟩
      |rowE=>omega
     obtain⟨ob,h1,hB⟩:=h.st.blk i _ hl
     rw[hρb] at h1
     simp only[Option.some.injEq] at h1
     subst h1
     obtain⟨hk,hB⟩:=hB
     dsimp only at hk hB
     rcases hB with ⟨g1,-⟩|⟨b',cur,e2,cap',g1,hh,hsz,hcap,hm,hone,hrep⟩
     ·
      cases g1
     simp only[Option.some.injEq] at g1
     subst g1
     have hshape:w.shape? b=some (e2,cur.size):=by simp[World.shape?,hh]
     have hnρ:∀ j m',ρ' j≠some (some b,m'):=fun j m' hj=>by
      by_cases hjn:lget (σ.freeze i).locs j=none
      ·
       have:=h'.st.dom j hjn;rw[this] at hj;cases hj
      ·
       have hj2:=hj
       rw[hkρ j hjn] at hj2
       have:=h.st.inj j i b _ _ hj2 hρb
       subst this
       exact hjn (by
        unfold AS.freeze
        rw[hl]
        show lget (lmap _ (ldel σ.locs j)) j=none
        rw[qbh,qcJ h.uniq,if_pos rfl];rfl)
     have hst:=h'.st.mark (w':=w.freeze ⟨b,cur.size,none⟩ 1) (b:=b) (fun y hy=>qbv _ _ _ _ y hy) (fun o=>qhU _ _ _ _ o) (fun o x hc _=>qiS w b o cur e2 hh x hc) (qlZ _ _ _ _ _) hnρ (h.st.own i b _ hρb)
      (by unfold World.freeze;split<;>rfl) (by unfold World.freeze;split<;>rfl) (by unfold World.freeze;split<;>rfl) (by rw[qoq];exact Nat.le_refl _)
     have hSA:SA w0 bor im0 im' ρ' (σ.freeze i) a (w.freeze ⟨b,cur.size,none⟩ 1):=⟨hst,h'.uniq⟩
     refine qaN (v:=.slice (some ⟨b,off,none⟩) n cap) (w':=w.freeze ⟨b,cur.size,none⟩ 1) ?_ (hn _ _ _ _ _ hv (hSA.put ((qlY _ _ _).trans hcl) ?_) fun _=>⟨by rw[qoq];exact Nat.le_refl _,fun b2 _=>⟨fun o=>by
       by_cases e:b2=b
       ·
        subst e;exact qhU _ _ _ _ _
       ·
        simp[World.cell?,qbv _ _ _ _ _ e],qlZ _ _ _ _ _⟩⟩)
     ·
      simp only[execOp,ho,hav,convert,Sem.run_bind,run_underlying hs,run_underlying hu8,Result.andThen_ok]
      simp[run_underlying hu8,markStringish,hshape]
     ·
      rw[hav] at hr'
      exact hr'.stableC (fun b2 o2 _=>by
       by_cases e:b2=b
       ·
        subst e;exact qhU _ _ _ _ _
       ·
        exact World.cell?_of_block (w:=w) (qbv _ _ _ _ b2 e)) (fun _ h=>h) (fun _ _ h=>h) (fun j b2 m' hj=>qbj (qbv _ _ _ _ b2 (by rintro rfl;exact hnρ _ _ hj))) (fun b2 o2 y _ hc hf=>by
       by_cases e:b2=b
       ·
        subst e;exact qiS w b2 o2 cur e2 hh y hc
       ·
        have e3:(w.freeze ⟨b,cur.size,none⟩ 1).frozen? ⟨b2,o2,none⟩=w.frozen? ⟨b2,o2,none⟩:=by simp only[World.frozen?,qbv _ _ _ _ b2 e]
        rw[e3];exact hf)
    ·
     exact hv.elim
   ·
    exact hv.elim
  ·
   exact hv.elim
 ·
  exact hv.elim
end
end Go.Eng
namespace Go.Eng
open Go
structure Res (ro:Bool) (w w':World) (im im':Nat→Prop) (ρ':Ids) (v:Value) (r:AV) (F:List Blk):Prop where
 below:RowKit.Below w.heap.size w w'
 imold:ro=false→∀ b,im b→im' b
 imnew:∀ b,im' b→(ro=false∧im b)∨(w.heap.size≤b∧b<w'.heap.size)
 dom:∀ j,F[j]? = none→ρ' j=none
 blk:∀ j b,F[j]? = some b→∃ ob,ρ' j=some ob∧BRep w' im' ρ' ob b
 inj:∀ i j b m m',ρ' i=some (some b,m)→ρ' j=some (some b,m')→i=j
 notim:∀ i b m,ρ' i=some (some b,m)→¬ im' b
 fresh:∀ i b m,ρ' i=some (some b,m)→w.heap.size≤b
 rep:Rep w' im' ρ' v r
theorem qaY (f:Nat→Nat):∀ (l:List AV),renL f l=l.map (ren f)
 | []=>rfl
 |a::r=>by simp[renL,qaY f r]
section
variable {w0 w : World} {bor : Bor} {im0 im : Nat → Prop} {ρ : Ids} {sl : List AV} {gs : List (Nat × Nat × Bool)} {L : Nat → Option Blk} {σ : AS} {a : Act}
theorem Rep.ren {ρ ρ2:Ids}{v:Value}{x:AV}(h:Rep w im ρ v x)(f:Nat→Nat)(hf:∀ i x,ρ i=some x→ρ2 (f i)=some x):Rep w im ρ2 v (Eng.ren f x):=by
 induction h generalizing ρ2 with
 |int h=>exact .int h
 |bool=>exact .bool
 |str h=>exact .str h
 |nilptr=>exact .nilptr
 |nilsl=>exact .nilsl
 |nilfn=>exact .nilfn
 |sl0=>exact .sl0
 |emp=>exact .emp
 |sl hb hn hcap hm vals hcell hone hrep ih=>exact .sl hb hn hcap hm vals hcell hone hrep
 |iref hb ho vals hcell hone hrep ih=>exact .iref hb ho vals hcell hone hrep
 |row0 h=>exact .row0 (hf _ _ h)
 |row h hle ho hn hm hs=>exact .row (hf _ _ h) hle ho hn hm hs
 |rowE h ho hm=>exact .rowE (hf _ _ h) ho hm
 |ptr h=>exact .ptr (hf _ _ h)
 |eptr h ho=>exact .eptr (hf _ _ h) ho
 |agg hl hone h ih =>
  unfold Eng.ren
  rw[qaY]
  exact .agg (by simpa using hl) hone fun j v hj=>by rw[qag (by rfl)];exact ih j v hj hf
 |tup hl h ih =>
  unfold Eng.ren
  rw[qaY]
  exact .tup (by simpa using hl) fun j v hj=>by rw[qag (by rfl)];exact ih j v hj hf
 |fn hl hl' h h' ih ih' =>
  unfold Eng.ren
  rw[qaY,qaY]
  exact .fn (by simpa using hl) (by simpa using hl') (fun j v hj=>by rw[qag (by rfl)];exact ih j v hj hf) (fun j v hj=>by rw[qag (by rfl)];exact ih' j v hj hf)
 |dead=>exact .dead
 |val=>exact .val
 |both h h'=>exact .both h h'
 |wsl hn hm h0 h=>exact .wsl hn hm h0 h
 |wref hb hn hx1 hc1 hf1=>exact .wref hb hn hx1 hc1 hf1
 |anyb h=>exact .anyb h
theorem BRep.ren {ρ ρ2:Ids}{ob:Option Nat×Nat}{b:Blk}(h:BRep w im ρ ob b)(f:Nat→Nat)(hf:∀ i x,ρ i=some x→ρ2 (f i)=some x):BRep w im ρ2 ob (match b with|.cells cs=>.cells (renL f cs)|.row c xs=>.row c xs):=by
 cases b with
 |cells cs =>
  obtain⟨b,cur,e,h1,h2,h3,h4,h5⟩:=h
  exact⟨b,cur,e,h1,h2,by rw[qaY];simpa using h3,h4,fun j v hj=>by rw[qaY,qag (by rfl)];exact(h5 j v hj).ren f hf⟩
 |row c xs=>exact h
theorem qor:∀ {v:Value} {x:AV} {ρ:Ids},Rep w im ρ v x→qfv x=true→Rep w im qai v x:=by
 have L1:∀ (l:List AV),qcn l=true→∀ j,j<l.length→qfv (nth l j)=true:=by
  intro l
  induction l with
  |nil=>intro _ j hj;simp at hj
  |cons x r ih =>
   intro h j hj
   simp only[qcn,Bool.and_eq_true] at h
   cases j with
   |zero=>exact h.1
   |succ j=>exact ih h.2 j (by simpa using hj)
 intro v x ρ h hx
 induction h with
 |int h=>exact .int h
 |bool=>exact .bool
 |str h=>exact .str h
 |nilptr=>exact .nilptr
 |nilsl=>exact .nilsl
 |nilfn=>exact .nilfn
 |sl0=>exact .sl0
 |emp=>exact .emp
 |sl hb hn hcap hm vals hcell hone hrep ih=>exact .sl hb hn hcap hm vals hcell hone hrep
 |iref hb ho vals hcell hone hrep ih=>exact .iref hb ho vals hcell hone hrep
 |row0 h=>simp[qfv] at hx
 |row h hle ho hn hm hs=>simp[qfv] at hx
 |rowE h ho hm=>simp[qfv] at hx
 |ptr h=>simp[qfv] at hx
 |eptr h ho=>simp[qfv] at hx
 |agg hl hone h ih=>exact .agg hl hone fun j v hj=>ih j v hj (L1 _ hx j (by rw[← hl];exact qf0 hj))
 |tup hl h ih=>exact .tup hl fun j v hj=>ih j v hj (L1 _ hx j (by rw[← hl];exact qf0 hj))
 |fn hl hl' h h' ih ih' =>
  simp only[qfv,Bool.and_eq_true] at hx
  exact .fn hl hl' (fun j v hj=>ih j v hj (L1 _ hx.1 j (by rw[← hl];exact qf0 hj))) (fun j v hj=>ih' j v hj (L1 _ hx.2 j (by rw[← hl'];exact qf0 hj)))
 |dead=>exact .dead
 |val=>exact .val
 |both h h'=>exact .both h h'
 |wsl hn hm h0 h=>exact .wsl hn hm h0 h
 |wref hb hn hx1 hc1 hf1=>exact .wref hb hn hx1 hc1 hf1
 |anyb h=>exact .anyb h
theorem qos:∀ (l:List AV),qcn l=true→∀ j,qfv (nth l j)=true:=by
 intro l
 induction l with
 |nil=>intro _ j;rfl
 |cons x r ih =>
  intro h j
  simp only[qcn,Bool.and_eq_true] at h
  cases j with
  |zero=>exact h.1
  |succ j=>exact ih h.2 j
def mrg (ρ ρF:Ids):Ids:=fun i=>match ρF i with
 |some x=>some x
 |none=>ρ i
def mrgL (L LF:Nat→Option Blk):Nat→Option Blk:=fun i=>match LF i with
 |some x=>some x
 |none=>L i
theorem St.imUp (h:St w0 bor im0 im ρ sl gs L a w){im':Nat→Prop}(hsub:∀ b,im b→im' b)(hnew:∀ b,im' b→im b∨(w0.heap.size≤b∧b<w.heap.size∧∀ i m,ρ i≠some (some b,m))):St w0 bor im0 im' ρ sl gs L a w :=
 {
  h with
  slot:=fun i v hv=>by
   have hs:=h.slot i v hv
   unfold SRep at hs ⊢
   split
   ·
    rename_i hg;rw[hg] at hs;exact hs.stable (fun _ _=>rfl) hsub (fun _ _ h=>h) (fun _ _ _ _=>rfl)
   ·
    rename_i tc wt hg
    rw[hg] at hs
    exact⟨fun e=>(hs.1 e).stable (fun _ _=>rfl) hsub (fun _ _ h=>h) (fun _ _ _ _=>rfl),hs.2⟩
  blk:=fun i b hb=>by
   obtain⟨ob,h1,h2⟩:=h.blk i b hb
   exact⟨ob,h1,h2.stable (fun _ _=>rfl) hsub (fun _ _ h=>h) (fun _ _ _ _=>rfl) (fun _ _=>rfl)⟩
  notim:=fun i b m hi hb=>by
   rcases hnew b hb with h1|h1
   ·
    exact h.notim i b m hi h1
   ·
    exact h1.2.2 i m hi
  imlt:=fun b hb=>by
   rcases hnew b hb with h1|h1
   ·
    exact h.imlt b h1
   ·
    exact h1.2.1
  imold:=fun b hb=>hsub b (h.imold b hb)
  imnew:=fun b hb=>by
   rcases hnew b hb with h1|h1
   ·
    exact h.imnew b h1
   ·
    exact .inr (.inl h1.1)}
theorem St.addF (h:St w0 bor im0 im ρ sl gs L a w) {ρF:Ids} {LF:Nat→Option Blk} (habs:∀ i b,LF i=some b→L i=none) (hdom:∀ i,LF i=none→ρF i=none)
  (hblk:∀ i b,LF i=some b→∃ ob,ρF i=some ob∧BRep w im ρF ob b) (hinj:∀ i j b m m',ρF i=some (some b,m)→ρF j=some (some b,m')→i=j)
  (hge:∀ i b,LF i=some b→900≤i) (hnot:∀ i b m,ρF i=some (some b,m)→¬ im b∧(∀ j m',ρ j≠some (some b,m'))∧(w0.heap.size≤b∨bor.mem b)) :
  St w0 bor im0 im (mrg ρ ρF) sl gs (mrgL L LF) a w:=by
 have hF:∀ i x,ρF i=some x→L i=none:=fun i x hi=>by
  cases hl:LF i with
  |none=>rw[hdom i hl] at hi;cases hi
  |some b=>exact habs i b hl
 have hρ:∀ i x,ρ i=some x→mrg ρ ρF i=some x:=by
  intro i x hi
  unfold mrg
  cases hf:ρF i with
  |none=>exact hi
  |some y =>
   have:=h.dom i (hF i y hf)
   rw[this] at hi;cases hi
 have hρF:∀ i x,ρF i=some x→mrg ρ ρF i=some x:=by
  intro i x hi;unfold mrg;rw[hi]
 exact{h with
  slot:=fun i v hv=>by
   have hs:=h.slot i v hv
   unfold SRep at hs ⊢
   split
   ·
    rename_i hg;rw[hg] at hs;exact hs.stable (fun _ _=>rfl) (fun _ h=>h) hρ (fun _ _ _ _=>rfl)
   ·
    rename_i tc wt hg
    rw[hg] at hs
    exact⟨fun e=>(hs.1 e).stable (fun _ _=>rfl) (fun _ h=>h) hρ (fun _ _ _ _=>rfl),hs.2⟩
  dom:=fun i hi=>by
   unfold mrgL at hi
   split at hi
   ·
    cases hi
   ·
    rename_i hl
    unfold mrg
    rw[hdom i hl]
    exact h.dom i hi
  blk:=fun i b hb=>by
   unfold mrgL at hb
   split at hb
   ·
    rename_i b' hl
    simp only[Option.some.injEq] at hb
    subst hb
    obtain⟨ob,h1,h2⟩:=hblk i _ hl
    exact⟨ob,hρF _ _ h1,h2.stable (fun _ _=>rfl) (fun _ h=>h) hρF (fun _ _ _ _=>rfl) (fun _ _=>rfl)⟩
   ·
    obtain⟨ob,h1,h2⟩:=h.blk i b hb
    exact⟨ob,hρ _ _ h1,h2.stable (fun _ _=>rfl) (fun _ h=>h) hρ (fun _ _ _ _=>rfl) (fun _ _=>rfl)⟩
  inj:=fun i j b m m' hi hj=>by
   cases h1:ρF i with
   |none =>
    cases h2:ρF j with
    |none =>
     simp only[mrg,h1,h2] at hi hj
     exact h.inj i j b m m' hi hj
    |some y =>
     simp only[mrg,h1,h2,Option.some.injEq] at hi hj
     subst hj
     exact absurd hi ((hnot j b _ h2).2.1 i m)
   |some x =>
    cases h2:ρF j with
    |none =>
     simp only[mrg,h1,h2,Option.some.injEq] at hi hj
     subst hi
     exact absurd hj ((hnot i b _ h1).2.1 j m')
    |some y =>
     simp only[mrg,h1,h2,Option.some.injEq] at hi hj
     subst hi;subst hj
     exact hinj i j b _ _ h1 h2
  notim:=fun i b m hi=>by
   cases h1:ρF i with
   |none=>simp only[mrg,h1] at hi;exact h.notim i b m hi
   |some x =>
    simp only[mrg,h1,Option.some.injEq] at hi
    subst hi
    exact(hnot i b _ h1).1
  own:=fun i b m hi=>by
   cases h1:ρF i with
   |none=>simp only[mrg,h1] at hi;exact h.own i b m hi
   |some x =>
    simp only[mrg,h1,Option.some.injEq] at hi
    subst hi
    exact(hnot i b _ h1).2.2
  pin:=fun i x hlt hi=>by
   cases h1:ρF i with
   |none=>simp only[mrg,h1] at hi;exact h.pin i x hlt hi
   |some y =>
    cases h2:LF i with
    |none=>rw[hdom i h2] at h1;cases h1
    |some b=>have:=hge i b h2;omega}
theorem qot (L:Locs)(s:Nat):∀ (F:List Blk) (j i:Nat),lget (layF L s j F) i=if j+s≤i∧i<j+s+F.length then (F[i-(j+s)]?).map (qeg s) else lget L i
 | [],j,i=>by simp[layF];intros;omega
 |b::r,j,i=>by
  simp only[layF,lget]
  split
  ·
   rename_i h
   have:=nbeq h
   subst this
   rw[if_pos (by simp)]
   simp
  ·
   rename_i h
   have hne:=qbA h
   rw[qot L s r (j+1) i]
   simp only[List.length_cons]
   by_cases h1:j+1+s≤i∧i<j+1+s+r.length
   ·
    rw[if_pos h1,if_pos (by omega)]
    have e:i-(j+s)=(i-(j+1+s))+1:=by omega
    rw[e,List.getElem?_cons_succ]
   ·
    rw[if_neg h1,if_neg (by omega)]
theorem qem {L:Locs}{s:Nat}:∀ (F:List Blk) (j:Nat),qaU L s j F=true→∀ i,j+s≤i→i<j+s+F.length→lget L i=none
 | [],j,_,i,h1,h2=>by simp at h2;omega
 |b::r,j,h,i,h1,h2=>by
  simp only[qaU,Bool.and_eq_true] at h
  simp only[List.length_cons] at h2
  by_cases e:i=j+s
  ·
   subst e;exact qaJ h.1
  ·
   exact qem r (j+1) h.2 i (by omega) (by omega)
theorem qkB {L:Locs}{s:Nat}:∀ (F:List Blk) (j:Nat),qaU L s j F=true→∀ i,j+s≤i→i<j+s+F.length→900≤i
 | [],j,_,i,h1,h2=>by simp at h2;omega
 |b::r,j,h,i,h1,h2=>by
  simp only[qaU,Bool.and_eq_true] at h
  simp only[List.length_cons] at h2
  by_cases e:i=j+s
  ·
   subst e;exact qbi h.1
  ·
   exact qkB r (j+1) h.2 i (by omega) (by omega)
theorem Uniq.layF {L:Locs}{s:Nat}(hL:Uniq L):∀ (F:List Blk) (j:Nat),qaU L s j F=true→Uniq (Eng.layF L s j F)
 | [],j,_=>hL
 |b::r,j,h=>by
  simp only[qaU,Bool.and_eq_true] at h
  refine Uniq.cons (Uniq.layF hL r (j+1) h.2) ?_ _
  rw[qot,if_neg (by omega)]
  exact qaJ h.1
theorem SA.called (h:SA w0 bor im0 im ρ σ a w) {ro:Bool} {imc im':Nat→Prop} {w':World} {ρ':Ids} {v:Value} {r:AV} {F:List Blk} (hr:Res ro w w' imc im' ρ' v r F)
  (himc:ro=false→∀ b,imc b↔im b) {id:Nat} (hab:qaU σ.locs id 0 F=true) :
  ∃ im2 ρ2,SA w0 bor im0 im2 ρ2 ⟨σ.slots,σ.gs,layF σ.locs id 0 F⟩ a w'∧Rep w' im2 ρ2 v (ren (· + id) r):=by
 have hsz:=hr.below.size
 have h1:=h.st.world (w':=w') (fun b hb=>hr.below.block b hb) hr.below.os hr.below.tape hr.below.output hsz
 have hnewρ:∀ i b m,ρ i=some (some b,m)→b<w.heap.size:=fun i b m hi=>h.st.rholt hi
 have hup:∀ b,im' b→im b∨(w.heap.size≤b∧b<w'.heap.size):=fun b hb=>by
  rcases hr.imnew b hb with ⟨h2,h3⟩|h2
  ·
   exact .inl ((himc h2 b).1 h3)
  ·
   exact .inr h2
 have h2:=h1.imUp (im':=fun b=>im b∨im' b) (fun _ h=>.inl h) (fun b hb=>by
  rcases hb with hb|hb
  ·
   exact .inl hb
  ·
   rcases hup b hb with h3|h3
   ·
    exact .inl h3
   ·
    exact .inr ⟨Nat.le_trans h.st.size h3.1,h3.2,fun i m hi=>by have:=hnewρ i b m hi;omega⟩)
 let ρF:Ids:=fun i=>if id≤i then ρ' (i-id) else none
 have hsh:∀ i x,ρ' i=some x→ρF (i+id)=some x:=fun i x hi=>by
  show (if id≤i+id then ρ' (i+id-id) else none)=some x
  rw[if_pos (by omega),Nat.add_sub_cancel];exact hi
 have hinv:∀ i x,ρF i=some x→id≤i∧ρ' (i-id)=some x:=fun i x hi=>by
  have hi:(if id≤i then ρ' (i-id) else none)=some x:=hi
  split at hi
  ·
   exact⟨‹_›,hi⟩
  ·
   cases hi
 let LF:Nat→Option Blk:=fun i=>if 0+id≤i∧i<0+id+F.length then (F[i-(0+id)]?).map (qeg id) else none
 have hLF:∀ i b,LF i=some b→0+id≤i∧i<0+id+F.length∧∃ b',F[i-id]? = some b'∧b=qeg id b':=fun i b hi=>by
  have hi:(if 0+id≤i∧i<0+id+F.length then (F[i-(0+id)]?).map (qeg id) else none)=some b:=hi
  split at hi
  ·
   rename_i hc
   rw[Nat.zero_add] at hi
   cases hF:F[i-id]? with
   |none=>rw[hF] at hi;cases hi
   |some b'=>rw[hF] at hi;exact⟨hc.1,hc.2,b',rfl,(Option.some.inj hi).symm⟩
  ·
   cases hi
 have h3:=h2.addF (ρF:=ρF) (LF:=LF) (fun i b hi=>qem F 0 hab i (hLF i b hi).1 (hLF i b hi).2.1)
  (fun i hi=>by
   cases hρ:ρF i with
   |none=>rfl
   |some x =>
    exfalso
    obtain⟨g1,g2⟩:=hinv i x hρ
    have hlt:i-id<F.length:=by
     rcases Nat.lt_or_ge (i-id) F.length with h4|h4
     ·
      exact h4
     ·
      rw[hr.dom _ (List.getElem?_eq_none h4)] at g2;cases g2
    have hi:(if 0+id≤i∧i<0+id+F.length then (F[i-(0+id)]?).map (qeg id) else none)=none:=hi
    rw[if_pos (by omega),Nat.zero_add,List.getElem?_eq_getElem hlt] at hi
    cases hi)
  (fun i b hi=>by
   obtain⟨g1,g2,b',g3,rfl⟩:=hLF i b hi
   obtain⟨ob,g4,g5⟩:=hr.blk _ _ g3
   refine⟨ob,?_,?_⟩
   ·
    have:=hsh _ _ g4
    have e:i-id+id=i:=by omega
    rw[e] at this;exact this
   ·
    have g6:=(g5.stable (im':=fun b=>im b∨im' b) (fun _ _=>rfl) (fun _ h=>.inr h) (fun _ _ h=>h) (fun _ _ _ _=>rfl) (fun _ _=>rfl)).ren (· + id) hsh
    cases b'<;>exact g6)
  (fun i j b m m' hi hj=>by
   obtain⟨g1,g2⟩:=hinv i _ hi
   obtain⟨g3,g4⟩:=hinv j _ hj
   have:=hr.inj _ _ b m m' g2 g4
   omega)
  (fun i b hi=>qkB F 0 hab i (hLF i b hi).1 (hLF i b hi).2.1)
  (fun i b m hi=>by
   obtain⟨g1,g2⟩:=hinv i _ hi
   have hf:=hr.fresh _ b m g2
   refine⟨?_,fun j m' hj=>?_,.inl (Nat.le_trans h.st.size hf)⟩
   ·
    rintro(h4|h4)
    ·
     have:=h.st.imlt b h4;omega
    ·
     exact hr.notim _ b m g2 h4
   ·
    have:=hnewρ j b m' hj;omega)
 refine⟨fun b=>im b∨im' b,mrg ρ ρF,⟨?_,Uniq.layF h.uniq F 0 hab⟩,?_⟩
 ·
  have e:lget (layF σ.locs id 0 F)=mrgL (lget σ.locs) LF:=by
   funext i
   rw[qot]
   show _=(match (if 0+id≤i∧i<0+id+F.length then (F[i-(0+id)]?).map (qeg id) else none) with|some x=>some x|none=>lget σ.locs i)
   split
   ·
    rename_i hc
    have hlt:i-(0+id)<F.length:=by omega
    rw[List.getElem?_eq_getElem hlt];rfl
   ·
    rfl
  show St w0 bor im0 _ _ σ.slots σ.gs (lget (layF σ.locs id 0 F)) a w'
  rw[e];exact h3
 ·
  have hab2:∀ i x,ρF i=some x→lget σ.locs i=none:=fun i x hi=>by
   obtain⟨g1,g2⟩:=hinv i x hi
   have hlt:i-id<F.length:=by
    rcases Nat.lt_or_ge (i-id) F.length with h4|h4
    ·
     exact h4
    ·
     rw[hr.dom _ (List.getElem?_eq_none h4)] at g2;cases g2
   exact qem F 0 hab i (by omega) (by omega)
  have:=(hr.rep.stable (im':=fun b=>im b∨im' b) (fun _ _=>rfl) (fun _ h=>.inr h) (fun _ _ h=>h) (fun _ _ _ _=>rfl)).ren (· + id) hsh
  exact this.stable (fun _ _=>rfl) (fun _ h=>h) (fun i x hi=>by unfold mrg;rw[hi]) (fun _ _ _ _=>rfl)
end
end Go.Eng
namespace Go.Eng
open Go
theorem qnk {i:Nat}:∀ {l:List Nat},memN i l=true↔i∈l
 | []=>by simp[memN]
 |j::r=>by
  unfold memN
  have ih:=qnk (i:=i) (l:=r)
  split
  ·
   rename_i h;have:=nbeq h;subst this;simp
  ·
   rename_i h;have:=qbA h
   rw[ih,List.mem_cons]
   exact⟨.inr,fun e=>e.resolve_left this⟩
def qcf (ks:List Nat) (ρ:Ids):Ids:=fun i=>if i∈ks then ρ i else none
theorem qdi {ρ:Ids}{ks:List Nat}{i:Nat}{x:Option Nat×Nat}(h:qcf ks ρ i=some x):ρ i=some x∧i∈ks:=by
 unfold qcf at h
 split at h
 ·
  rename_i hm;exact⟨h,hm⟩
 ·
  cases h
theorem qiZ:∀ {l:List Nat},qcG l=true→l.Nodup
 | [],_=>List.nodup_nil
 |i::r,h=>by
  simp only[qcG,Bool.and_eq_true,Bool.not_eq_true'] at h
  refine List.nodup_cons.2 ⟨fun hm=>?_,qiZ h.2⟩
  rw[qnk.2 hm] at h
  exact absurd h.1 (by simp)
theorem qaZ {ks:List Nat}:∀ {l:List AV},qbN ks l=true→∀ j,qde ks (nth l j)=true
 | [],_,j=>rfl
 |x::r,h,j=>by
  simp only[qbN,Bool.and_eq_true] at h
  cases j with
  |zero=>exact h.1
  |succ j=>exact qaZ h.2 j
theorem qbw {w:World}{im:Nat→Prop} {ρ:Ids}{ks:List Nat}{v:Value}{x:AV}(h:Rep w im ρ v x)(hc:qde ks x=true):Rep w im (qcf ks ρ) v x:=by
 have hρ:∀ {ρ:Ids} {i u},memN i ks=true→ρ i=some u→qcf ks ρ i=some u:=fun{ρ i u} hm hu=>by unfold qcf;rw[if_pos (qnk.1 hm)];exact hu
 induction h with
 |int h=>exact .int h
 |bool=>exact .bool
 |str h=>exact .str h
 |nilptr=>exact .nilptr
 |nilsl=>exact .nilsl
 |nilfn=>exact .nilfn
 |sl0=>exact .sl0
 |emp=>exact .emp
 |sl hb hn hcap hm vals hcell hone hrep ih=>exact .sl hb hn hcap hm vals hcell hone hrep
 |iref hb ho vals hcell hone hrep ih=>exact .iref hb ho vals hcell hone hrep
 |row0 h=>exact .row0 (hρ hc h)
 |row h hle ho hn hm hs=>exact .row (hρ hc h) hle ho hn hm hs
 |rowE h ho hm=>exact .rowE (hρ hc h) ho hm
 |ptr h=>exact .ptr (hρ hc h)
 |eptr h ho=>exact .eptr (hρ hc h) ho
 |agg hl hone h ih=>exact .agg hl hone fun j v hj=>ih j v hj (qaZ hc j)
 |tup hl h ih=>exact .tup hl fun j v hj=>ih j v hj (qaZ hc j)
 |fn hl hl' h h' ih ih' =>
  simp only[qde,Bool.and_eq_true] at hc
  exact .fn hl hl' (fun j v hj=>ih j v hj (qaZ hc.1 j)) (fun j v hj=>ih' j v hj (qaZ hc.2 j))
 |dead=>exact .dead
 |val=>exact .val
 |both h h'=>exact .both h h'
 |wsl hn hm h0 h=>exact .wsl hn hm h0 h
 |wref hb hn hx1 hc1 hf1=>exact .wref hb hn hx1 hc1 hf1
 |anyb h=>exact .anyb h
theorem q3e:∀ {l:List Nat} {i:Nat} (n:Nat),i∈l→∃ m,idx l i n=n+m∧l[m]? = some i
 | [],i,n,h=>by cases h
 |j::r,i,n,h=>by
  unfold idx
  split
  ·
   rename_i e;have:=nbeq e;subst this;exact⟨0,rfl,rfl⟩
  ·
   rename_i e
   rcases List.mem_cons.1 h with e'|e'
   ·
    exact absurd e' (qbA e)
   ·
    obtain⟨m,h1,h2⟩:=q3e (n+1) e'
    exact⟨m+1,by omega,by simpa using h2⟩
section
variable {w0 w : World} {bor : Bor} {im0 im : Nat → Prop} {ρ : Ids} {sl : List AV} {gs : List (Nat × Nat × Bool)} {L : Nat → Option Blk} {σ : AS} {a : Act}
theorem qgq (own:List Bool):∀ (B:List Blk) (j i:Nat),j+B.length≤900→lget (qco own j B) i =
  if i<900 then (if i<j∨nthB own i=true then none else B[i-j]?) else (if i-900<j∨nthB own (i-900)=false then none else B[i-900-j]?)
 | [],j,i,_=>by simp[qco,lget]
 |b::r,j,i,h=>by
  simp only[List.length_cons] at h
  have ih:=qgq own r (j+1) i (by omega)
  unfold qco
  simp only[lget]
  have hnm:nm own j=if nthB own j=true then 900+j else j:=by unfold nm;split<;>simp_all
  split
  ·
   rename_i e
   have e:=nbeq e
   rw[hnm] at e
   split at e
   ·
    rename_i ho
    subst e
    rw[if_neg (by omega),Nat.add_sub_cancel_left,if_neg (by simp[ho]),Nat.sub_self];rfl
   ·
    rename_i ho
    subst e
    rw[if_pos (by omega),if_neg (by simp[ho]),Nat.sub_self];rfl
  ·
   rename_i e
   have e:=qbA e
   rw[hnm] at e
   rw[ih]
   by_cases hi:i<900
   ·
    rw[if_pos hi,if_pos hi]
    by_cases ho:nthB own i=true
    ·
     rw[if_pos (.inr ho),if_pos (.inr ho)]
    ·
     have hne:i≠j:=by rintro rfl;rw[if_neg ho] at e;exact e rfl
     by_cases hlt:i<j
     ·
      rw[if_pos (.inl (by omega)),if_pos (.inl hlt)]
     ·
      rw[if_neg (by simp[ho];omega),if_neg (by simp[ho];omega),show i-j=(i-(j+1))+1 by omega,List.getElem?_cons_succ]
   ·
    rw[if_neg hi,if_neg hi]
    by_cases ho:nthB own (i-900)=false
    ·
     rw[if_pos (.inr ho),if_pos (.inr ho)]
    ·
     have hne:i-900≠j:=by
      rintro rfl
      rw[if_pos (by simpa using ho)] at e
      omega
     by_cases hlt:i-900<j
     ·
      rw[if_pos (.inl (by omega)),if_pos (.inl hlt)]
     ·
      rw[if_neg (by simp[ho];omega),if_neg (by simp[ho];omega),show i-900-j=(i-900-(j+1))+1 by omega,List.getElem?_cons_succ]
theorem qsh (own:List Bool):∀ (B:List Blk) (j:Nat),j+B.length≤900→∀ i∈(qco own j B).map (·.1),∃ q,j≤q∧q<900∧i=nm own q
 | [],j,_,i,h=>by simp[qco] at h
 |b::r,j,hl,i,h=>by
  simp only[List.length_cons] at hl
  unfold qco at h
  simp only[List.map_cons,List.mem_cons] at h
  rcases h with h|h
  ·
   exact⟨j,Nat.le_refl _,by omega,h⟩
  ·
   obtain⟨q,h1,h2,h3⟩:=qsh own r (j+1) (by omega) i h
   exact⟨q,by omega,h2,h3⟩
theorem nm_inj {own:List Bool}{p q:Nat}(hp:p<900)(hq:q<900)(h:nm own p=nm own q):p=q:=by
 unfold nm at h
 split at h<;>split at h<;>omega
theorem qsi (own:List Bool):∀ (B:List Blk) (j:Nat),j+B.length≤900→Uniq (qco own j B)
 | [],j,_=>List.nodup_nil
 |b::r,j,hl=>by
  simp only[List.length_cons] at hl
  refine List.nodup_cons.2 ⟨fun hm=>?_,qsi own r (j+1) (by omega)⟩
  obtain⟨q,h1,h2,h3⟩:=qsh own r (j+1) (by omega) _ hm
  have:=nm_inj (own:=own) (by omega) h2 h3
  omega
theorem qo4 {ρ ρ2:Ids}{ob:Option Nat×Nat}{b:Blk}(h:BRep w im ρ ob b)(f:Nat→Nat)(hf:∀ i x,ρ i=some x→ρ2 (f i)=some x):BRep w im ρ2 ob (qiD f b):=by
 have:=h.ren f hf
 cases b<;>exact this
theorem q0G {w:World} {im:Nat→Prop} {ρ ρ2:Ids} {L:Locs} {l:List Nat} {f:Nat→Nat} {i:Nat} {b:Blk} (h:blkG L l f i=some b)
  (hb:∀ b,lget L i=some b→∃ ob,ρ i=some ob∧BRep w im ρ ob b) (hf:∀ i x,qcf l ρ i=some x→ρ2 (f i)=some x):∃ ob,ρ i=some ob∧BRep w im ρ2 ob b:=by
 unfold blkG at h
 split at h
 ·
  rename_i cs hl
  split at h
  ·
   rename_i hc
   simp only[Option.some.injEq] at h;subst h
   obtain⟨ob,h1,b,cur,e,q1,q2,q3,q4,q5⟩:=hb _ hl
   refine⟨ob,h1,?_⟩
   have:BRep w im (qcf l ρ) ob (.cells cs):=⟨b,cur,e,q1,q2,q3,q4,fun j v hj=>qbw (q5 j v hj) (qaZ hc j)⟩
   exact qo4 this f hf
  ·
   cases h
 ·
  rename_i c xs hl
  simp only[Option.some.injEq] at h;subst h
  obtain⟨ob,h1,h2⟩:=hb _ hl
  exact⟨ob,h1,h2⟩
 ·
  cases h
theorem qo5 {L:Locs}{l:List Nat}{f:Nat→Nat}:∀ {m:List Nat} {F:List Blk},quA L l f m=some F→F.length=m.length∧∀ (j:Nat) (b:Blk),F[j]? = some b→∃ i,m[j]? = some i∧blkG L l f i=some b
 | [],F,h=>by simp[quA] at h;subst h;simp
 |i::r,F,h=>by
  unfold quA at h
  split at h
  ·
   rename_i b bs h1 h2
   simp only[Option.some.injEq] at h;subst h
   obtain⟨h3,h4⟩:=qo5 h2
   refine⟨by simp[h3],fun j b hj=>?_⟩
   cases j with
   |zero=>simp at hj;subst hj;exact⟨i,rfl,h1⟩
   |succ j=>exact h4 j b (by simpa using hj)
  ·
   cases h
theorem St.swap (h:St w0 bor im0 im ρ sl gs L a w) {w':World} {im2:Nat→Prop} {ρ2:Ids} {L2:Nat→Option Blk}
  (hρ:∀ i x,ρ i=some x→ρ2 i=some x) (him:∀ b,im b→w'.heap[b]? = w.heap[b]?) (hsub:∀ b,im b→im2 b)
  (hshape:∀ i b m,ρ i=some (some b,m)→w'.shape? b=w.shape? b) (hdom:∀ i,L2 i=none→ρ2 i=none)
  (hblk:∀ i b,L2 i=some b→∃ ob,ρ2 i=some ob∧BRep w' im2 ρ2 ob b)
  (hinj:∀ i j b m m',ρ2 i=some (some b,m)→ρ2 j=some (some b,m')→i=j) (hnot:∀ i b m,ρ2 i=some (some b,m)→¬ im2 b)
  (hlt:∀ b,im2 b→b<w'.heap.size) (hnew:∀ b,im2 b→im b∨w0.heap.size≤b∨bor.mem b) (hown:∀ i b m,ρ2 i=some (some b,m)→w0.heap.size≤b∨bor.mem b)
  (hpin:∀ i x,i<900→ρ2 i=some x→bor.pin i=some x) (hos:w'.os=w.os) (ht:w'.tape=w.tape) (ho:w'.output=w.output) (hsz:w.heap.size≤w'.heap.size)
  (hfr:∀ b,b<w0.heap.size→¬ bor.mem b→w'.heap[b]? = w.heap[b]?) (hsh:∀ b,bor.mem b→w'.shape? b=w.shape? b):St w0 bor im0 im2 ρ2 sl gs L2 a w' :=
 {
  defers:=h.defers
  len:=h.len
  slot:=fun i v hv=>by
   have hs:=h.slot i v hv
   unfold SRep at hs ⊢
   split
   ·
    rename_i hg;rw[hg] at hs;exact hs.stable him hsub hρ hshape
   ·
    rename_i tc wt hg
    rw[hg] at hs
    exact⟨fun e=>(hs.1 e).stable him hsub hρ hshape,hs.2⟩
  dom:=hdom
  blk:=hblk
  inj:=hinj
  notim:=hnot
  imlt:=hlt
  imold:=fun b hb=>hsub b (h.imold b hb)
  imnew:=fun b hb=>by
   rcases hnew b hb with h1|h1
   ·
    exact h.imnew b h1
   ·
    exact .inr h1
  own:=hown
  pin:=hpin
  shp:=fun b hb=>(hsh b hb).trans (h.shp b hb)
  blt:=h.blt
  os:=hos.trans h.os
  tape:=ht.trans h.tape
  output:=ho.trans h.output
  size:=Nat.le_trans h.size hsz
  frame:=fun b hb hn=>(hfr b hb hn).trans (h.frame b hb hn)}
theorem SA.del (h:SA w0 bor im0 im ρ σ a w)(i:Nat):SA w0 bor im0 im (upd ρ i none) ⟨qbI i σ.slots,σ.gs,lmap (qbI i) (ldel σ.locs i)⟩ a w:=by
 refine⟨?_,(h.uniq.ldel i).lmap _⟩
 have e:lget (lmap (qbI i) (ldel σ.locs i))=fun j=>if j=i then none else (lget σ.locs j).map (Blk.map (qbI i)):=by
  funext j
  rw[qbh,qcJ h.uniq]
  split<;>rfl
 show St _ _ _ _ _ _ _ (lget (lmap (qbI i) (ldel σ.locs i))) _ _
 rw[e]
 exact h.st.del i
theorem SA.killD:∀ (l:List Nat) {ρ:Ids} {σ:AS},SA w0 bor im0 im ρ σ a w→∃ ρ1,SA w0 bor im0 im ρ1 (σ.killD l) a w∧(∀ i,ρ1 i=if i∈l then none else ρ i)∧(∀ i,i ∉ l→((lget (σ.killD l).locs i=none)↔(lget σ.locs i=none))) ∧
  (∀ dst,(σ.killD l).clash dst=σ.clash dst)
 | [],ρ,σ,h=>⟨ρ,h,by simp,fun _ _=>Iff.rfl,fun _=>rfl⟩
 |i::r,ρ,σ,h=>by
  obtain⟨ρ1,h1,h2,h3,h4⟩:=SA.killD r (h.del i)
  refine⟨ρ1,h1,fun j=>?_,fun j hj=>?_,fun dst=>(h4 dst).trans ?_⟩
  ·
   rw[h2]
   unfold upd
   by_cases e:j∈r
   ·
    simp[e]
   ·
    by_cases e2:j=i<;>simp[e,e2]
  ·
   simp only[List.mem_cons,not_or] at hj
   rw[show σ.killD (i::r)=AS.killD ⟨qbI i σ.slots,σ.gs,lmap (qbI i) (ldel σ.locs i)⟩ r from rfl,h3 j hj.2]
   show lget (lmap (qbI i) (ldel σ.locs i)) j=none↔_
   rw[qbh,qcJ h.uniq,if_neg hj.1,Option.map_eq_none_iff]
  ·
   cases dst<;>rfl
theorem qdM {f:Nat→Nat}:∀ (l:List Nat) (bs:List (Option Blk)) (L:Locs),l.Nodup→(∀ (j i:Nat) (b:Blk),l[j]? = some i→bs[j]? = some (some b)→lget L i≠none) →
  (∀ (j i:Nat) (b:Blk),l[j]? = some i→bs[j]? = some (some b)→lget (setB f L l bs) i=some (qiD f b))∧(∀ i,(∀ (j:Nat) (b:Blk),l[j]? = some i→bs[j]?≠some (some b))→lget (setB f L l bs) i=lget L i)∧(setB f L l bs).map (·.1)=L.map (·.1)
 | [],bs,L,_,_=>by
  have e:setB f L [] bs=L:=by cases bs<;>rfl
  rw[e];simp
 |i::r,[],L,_,_=>by
  have e:setB f L (i::r) []=L:=rfl
  rw[e];simp
 |i::r,none::bs,L,hn,hl=>by
  have e:setB f L (i::r) (none::bs)=setB f L r bs:=rfl
  rw[e]
  obtain⟨h1,h2,h3⟩:=qdM r bs L (List.nodup_cons.1 hn).2 (fun j i b hj hb=>hl (j+1) i b (by simpa using hj) (by simpa using hb))
  refine⟨fun j i' b hj hb=>?_,fun i' hi=>h2 i' fun j b hj hb=>hi (j+1) b (by simpa using hj) (by simpa using hb),h3⟩
  cases j with
  |zero=>simp at hb
  |succ j=>exact h1 j i' b (by simpa using hj) (by simpa using hb)
 |i::r,some b0::bs,L,hn,hl=>by
  have e:setB f L (i::r) (some b0::bs)=setB f (lset L i (qiD f b0)) r bs:=rfl
  rw[e]
  have hn:=List.nodup_cons.1 hn
  obtain⟨b1,hb1⟩:∃ b1,lget L i=some b1:=by
   have:=hl 0 i b0 rfl rfl
   cases h:lget L i with
   |none=>exact absurd h this
   |some b1=>exact⟨b1,rfl⟩
  obtain⟨h1,h2,h3⟩:=qdM (f:=f) r bs (lset L i (qiD f b0)) hn.2 (fun j i' b hj hb=>by
   rw[qcK hb1]
   unfold upd
   split
   ·
    simp
   ·
    exact hl (j+1) i' b (by simpa using hj) (by simpa using hb))
  refine⟨fun j i' b hj hb=>?_,fun i' hi=>?_,h3.trans (qwW _ _ _)⟩
  ·
   cases j with
   |zero =>
    simp only[List.getElem?_cons_zero,Option.some.injEq] at hj hb
    subst hj;subst hb
    rw[h2 i fun j b hj hb=>hn.1 (List.mem_of_getElem? hj),qcK hb1]
    simp[upd]
   |succ j=>exact h1 j i' b (by simpa using hj) (by simpa using hb)
  ·
   rw[h2 i' fun j b hj hb=>hi (j+1) b (by simpa using hj) (by simpa using hb),qcK hb1]
   unfold upd
   rw[if_neg]
   rintro rfl
   exact hi 0 b0 rfl rfl
theorem qja (L:Locs)(f:Nat→Nat)(s:Nat):∀ (F:List Blk) (j i:Nat),lget (layG L f s j F) i=if j+s≤i∧i<j+s+F.length then (F[i-(j+s)]?).map (qiD f) else lget L i
 | [],j,i=>by simp[layG];intros;omega
 |b::r,j,i=>by
  simp only[layG,lget]
  split
  ·
   rename_i h
   have:=nbeq h
   subst this
   rw[if_pos (by simp)]
   simp
  ·
   rename_i h
   have hne:=qbA h
   rw[qja L f s r (j+1) i]
   simp only[List.length_cons]
   by_cases h1:j+1+s≤i∧i<j+1+s+r.length
   ·
    rw[if_pos h1,if_pos (by omega)]
    have e:i-(j+s)=(i-(j+1+s))+1:=by omega
    rw[e,List.getElem?_cons_succ]
   ·
    rw[if_neg h1,if_neg (by omega)]
theorem Uniq.layG {L L0:Locs}{f:Nat→Nat}{s:Nat}(hL:Uniq L)(hk:L.map (·.1)=L0.map (·.1)):∀ (F:List Blk) (j:Nat),qaU L0 s j F=true→Uniq (Eng.layG L f s j F)
 | [],j,_=>hL
 |b::r,j,h=>by
  simp only[qaU,Bool.and_eq_true] at h
  refine Uniq.cons (Uniq.layG hL hk r (j+1) h.2) ?_ _
  rw[qja,if_neg (by omega)]
  have:=qkA (qaJ h.1)
  rw[← hk] at this
  exact qok this
theorem q3f:∀ {l:List Nat} {n i:Nat},l[n]? = some i→nthN l n=i
 | [],n,i,h=>by simp at h
 |j::r,0,i,h=>by simpa [nthN] using h
 |j::r,n+1,i,h=>q3f (l:=r) (by simpa using h)
theorem qjb:∀ {l:List Nat} {bs:List (Option Blk)} {i:Nat},i∈qfx l bs→∃ j:Nat,l[j]? = some i∧bs[j]? = some none
 |i'::r,none::bs,i,h=>by
  unfold qfx at h
  rcases List.mem_cons.1 h with e|e
  ·
   subst e;exact⟨0,rfl,rfl⟩
  ·
   obtain⟨j,h1,h2⟩:=qjb e
   exact⟨j+1,by simpa using h1,by simpa using h2⟩
 |i'::r,some b::bs,i,h=>by
  unfold qfx at h
  obtain⟨j,h1,h2⟩:=qjb h
  exact⟨j+1,by simpa using h1,by simpa using h2⟩
 | [],bs,i,h=>by cases bs<;>cases h
 |_::_,[],i,h=>by cases h
theorem qfA:∀ {l:List Nat} {bs:List (Option Blk)} {j i:Nat},l[j]? = some i→bs[j]? = some none→i∈qfx l bs
 |i'::r,none::bs,0,i,h,_=>by
  simp only[List.getElem?_cons_zero,Option.some.injEq] at h
  subst h;exact List.mem_cons_self ..
 |i'::r,none::bs,j+1,i,h,hb=>List.mem_cons_of_mem _ (qfA (l:=r) (by simpa using h) (by simpa using hb))
 |i'::r,some b::bs,0,i,_,hb=>by simp at hb
 |i'::r,some b::bs,j+1,i,h,hb=>qfA (l:=r) (bs:=bs) (by simpa using h) (by simpa using hb)
 | [],bs,j,i,h,_=>by simp at h
 |_::_,[],j,i,_,hb=>by simp at hb
def LR (nB:Nat)(bs:List (Option Blk))(F:List Blk)(i:Nat):Option Blk:=if i<nB then (bs[i]?).join else F[i-nB]?
structure Lent (w:World) (im:Nat→Prop) (ρ0:Ids) (L0:Locs):Prop where
 dom:∀ i,lget L0 i=none→ρ0 i=none
 blk:∀ i b,lget L0 i=some b→∃ ob,ρ0 i=some ob∧BRep w im ρ0 ob b
 inj:∀ i j b m m',ρ0 i=some (some b,m)→ρ0 j=some (some b,m')→i=j
 notim:∀ i b m,ρ0 i=some (some b,m)→¬ im b
structure ResB (w w':World) (im im':Nat→Prop) (ρ0 ρ':Ids) (v:Value) (r:AV) (nB:Nat) (bs:List (Option Blk)) (F:List Blk):Prop where
 size:w.heap.size≤w'.heap.size
 os:w'.os=w.os
 tape:w'.tape=w.tape
 output:w'.output=w.output
 frame:∀ b,b<w.heap.size→(∀ i m,ρ0 i≠some (some b,m))→w'.heap[b]? = w.heap[b]?
 shp:∀ b,b<w.heap.size→w'.shape? b=w.shape? b
 imold:∀ b,im b→im' b
 imlt:∀ b,im' b→b<w'.heap.size
 imnew:∀ b,im' b→im b∨w.heap.size≤b∨∃ i m,ρ0 i=some (some b,m)
 len:bs.length=nB
 dom:∀ i,LR nB bs F i=none→ρ' i=none
 blk:∀ i b,LR nB bs F i=some b→∃ ob,ρ' i=some ob∧BRep w' im' ρ' ob b
 pin:∀ i x,i<nB→ρ' i=some x→ρ0 i=some x
 inj:∀ i j b m m',ρ' i=some (some b,m)→ρ' j=some (some b,m')→i=j
 notim:∀ i b m,ρ' i=some (some b,m)→¬ im' b
 fresh:∀ i b m,ρ' i=some (some b,m)→w.heap.size≤b∨∃ j m',ρ0 j=some (some b,m')
 rep:Rep w' im' ρ' v r
def qkG (own:List Bool)(l:List Nat) (ρ:Ids):Ids:=fun i =>
 if i<900 then (if nthB own i=true then none else (l[i]?).bind ρ) else (if nthB own (i-900)=true then (l[i-900]?).bind ρ else none)
theorem q3g {own:List Bool}{l:List Nat}{j i:Nat}{x:Option Nat×Nat}(hj:j<900)(hl:l[j]? = some i)(hx:ρ i=some x):qkG own l ρ (nm own j)=some x:=by
 unfold qkG nm
 split
 ·
  rename_i ho
  rw[if_neg (by omega),Nat.add_sub_cancel_left,if_pos ho,hl];exact hx
 ·
  rename_i ho
  rw[if_pos hj,if_neg (by simp[ho]),hl];exact hx
theorem qdN {own:List Bool}{l:List Nat}{i:Nat}{x:Option Nat×Nat}(h:qkG own l ρ i=some x):∃ j i':Nat,l[j]? = some i'∧ρ i'=some x∧i=nm own j∧(i<900→i=j):=by
 unfold qkG at h
 split at h
 ·
  rename_i hi
  split at h
  ·
   cases h
  ·
   rename_i ho
   cases hl:l[i]? with
   |none=>rw[hl] at h;cases h
   |some i'=>rw[hl] at h;exact⟨i,i',hl,h,by unfold nm;simp[ho],fun _=>rfl⟩
 ·
  rename_i hi
  split at h
  ·
   rename_i ho
   cases hl:l[i-900]? with
   |none=>rw[hl] at h;cases h
   |some i'=>rw[hl] at h;exact⟨i-900,i',hl,h,by unfold nm;simp[ho];omega,fun e=>absurd e hi⟩
  ·
   cases h
theorem SA.lent (h:SA w0 bor im0 im ρ σ a w) {own:List Bool} {l:List Nat} {B:List Blk} (hnd:l.Nodup) (hlen:l.length≤100)
  (hB:quA σ.locs l (fun i=>nm own (idx l i 0)) l=some B) :
  Lent w im (qkG own l ρ) (qco own 0 B)∧B.length=l.length∧∀ i x,qcf l ρ i=some x→qkG own l ρ (nm own (idx l i 0))=some x:=by
 obtain⟨hBl,hBg⟩:=qo5 hB
 have hf:∀ i x,qcf l ρ i=some x→qkG own l ρ (nm own (idx l i 0))=some x:=fun i x hx=>by
  obtain⟨h1,h2⟩:=qdi hx
  obtain⟨m,h3,h4⟩:=q3e 0 h2
  rw[h3,Nat.zero_add]
  have:=(List.getElem?_eq_some_iff.1 h4).1
  exact q3g (by omega) h4 h1
 refine⟨⟨fun i hi=>?_,fun i b hi=>?_,fun i j b m m' hi hj=>?_,fun i b m hi=>?_⟩,hBl,hf⟩
 ·
  cases hx:qkG own l ρ i with
  |none=>rfl
  |some x =>
   exfalso
   obtain⟨j,i',h1,h2,h3,-⟩:=qdN hx
   have hj:=(List.getElem?_eq_some_iff.1 h1).1
   rw[qgq _ _ _ _ (by omega)] at hi
   have hBj:B[j]?≠none:=by
    intro e
    rw[List.getElem?_eq_none_iff] at e
    omega
   subst h3
   unfold nm at hi
   split at hi
   ·
    rename_i ho
    rw[if_neg (by omega),Nat.add_sub_cancel_left,if_neg (by simp[ho])] at hi
    exact hBj hi
   ·
    rename_i ho
    rw[if_pos (by omega),if_neg (by simp[ho])] at hi
    exact hBj hi
 ·
  rw[qgq _ _ _ _ (by omega)] at hi
  have key:∀ j,B[j]? = some b→∃ ob,qkG own l ρ (nm own j)=some ob∧BRep w im (qkG own l ρ) ob b:=fun j hj=>by
   obtain⟨i',g1,g2⟩:=hBg j b hj
   obtain⟨ob,g3,g4⟩:=q0G (ρ2:=qkG own l ρ) g2 (fun b hb=>h.st.blk i' b hb) hf
   have:=(List.getElem?_eq_some_iff.1 g1).1
   exact⟨ob,q3g (by omega) g1 g3,g4⟩
  split at hi
  ·
   split at hi
   ·
    cases hi
   ·
    rename_i ho
    simp only[Nat.not_lt_zero,false_or] at ho
    have:=key i (by simpa using hi)
    unfold nm at this
    simp only[ho] at this
    exact this
  ·
   rename_i h9
   split at hi
   ·
    cases hi
   ·
    rename_i ho
    simp only[Nat.not_lt_zero,false_or,Bool.not_eq_false] at ho
    have:=key (i-900) (by simpa using hi)
    unfold nm at this
    simp only[ho] at this
    rw[show 900+(i-900)=i by omega] at this
    exact this
 ·
  obtain⟨p,i',g1,g2,g3,-⟩:=qdN hi
  obtain⟨q,j',g4,g5,g6,-⟩:=qdN hj
  have:=h.st.inj _ _ _ _ _ g2 g5
  subst this
  have:=(List.getElem?_inj (List.getElem?_eq_some_iff.1 g1).1 hnd).1 (g1.trans g4.symm)
  subst this
  rw[g3,g6]
 ·
  obtain⟨p,i',g1,g2,-,-⟩:=qdN hi
  exact h.st.notim _ _ _ g2
theorem SA.calledB (h:SA w0 bor im0 im ρ σ a w) {own:List Bool} {l:List Nat} (hnd:l.Nodup) (hlen:l.length≤100) (hin:∀ (j i:Nat),l[j]? = some i→lget σ.locs i≠none)
  {w':World} {im':Nat→Prop} {ρ':Ids} {v:Value} {r:AV} {bs:List (Option Blk)} {F:List Blk}
  (hr:ResB w w' im im' (qkG own l ρ) ρ' v r l.length bs F) {id:Nat} (hab:qaU (σ.killD (qfx l bs)).locs id 0 F=true) :
  ∃ im2 ρ2,SA w0 bor im0 im2 ρ2 ⟨(σ.killD (qfx l bs)).slots,(σ.killD (qfx l bs)).gs,layG (setB (hnum l l.length id) (σ.killD (qfx l bs)).locs l bs) (hnum l l.length id) id 0 F⟩ a w'∧Rep w' im2 ρ2 v (ren (hnum l l.length id) r):=by
 obtain⟨ρ1,h1,hρ1,hk1,-⟩:=SA.killD (qfx l bs) h
 generalize hσ1:σ.killD (qfx l bs)=σ1 at *
 have hle1:∀ i x,ρ1 i=some x→ρ i=some x∧i ∉ qfx l bs:=fun i x hx=>by
  rw[hρ1] at hx
  split at hx
  ·
   cases hx
  ·
   exact⟨hx,‹_›⟩
 have hlb:∀ {i b m},qkG own l ρ i=some (some b,m)→∃ q i',l[q]? = some i'∧ρ i'=some (some b,m):=fun hx=>by
  obtain⟨q,i',g1,g2,-,-⟩:=qdN hx
  exact⟨q,i',g1,g2⟩
 have hin1:∀ j i b,l[j]? = some i→bs[j]? = some (some b)→lget σ1.locs i≠none:=fun j i b hj hb=>by
  rw[Ne,hk1 i (fun hm=>?_)]
  ·
   exact hin j i hj
  ·
   obtain⟨q,g1,g2⟩:=qjb hm
   have:=(List.getElem?_inj (List.getElem?_eq_some_iff.1 hj).1 hnd).1 (hj.trans g1.symm)
   subst this
   rw[hb] at g2;cases g2
 have hpin:∀ n x,n<l.length→ρ' n=some x→∃ i b,l[n]? = some i∧ρ1 i=some x∧bs[n]? = some (some b):=fun n x hn hx=>by
  have h0:=hr.pin n x hn hx
  obtain⟨q,i',g1,g2,g3,g4⟩:=qdN h0
  have hq:=g4 (by omega)
  subst hq
  have hLR:LR l.length bs F n≠none:=fun e=>by rw[hr.dom n e] at hx;cases hx
  unfold LR at hLR
  rw[if_pos hn] at hLR
  cases hb:bs[n]? with
  |none=>rw[hb] at hLR;exact absurd rfl hLR
  |some ob=>cases ob with
   |none=>rw[hb] at hLR;exact absurd rfl hLR
   |some b =>
    refine⟨i',b,g1,?_,rfl⟩
    rw[hρ1,if_neg]
    ·
     exact g2
    ·
     intro hm
     obtain⟨q,g5,g6⟩:=qjb hm
     have:=(List.getElem?_inj (List.getElem?_eq_some_iff.1 g1).1 hnd).1 (g1.trans g5.symm)
     subst this
     rw[hb] at g6;cases g6
 let ρF:Ids:=fun i=>if id≤i∧i<id+F.length then ρ' (l.length+(i-id)) else none
 have hF:∀ i x,ρF i=some x→(id≤i∧i<id+F.length)∧ρ' (l.length+(i-id))=some x:=fun i x hx=>by
  have hx:(if id≤i∧i<id+F.length then ρ' (l.length+(i-id)) else none)=some x:=hx
  split at hx
  ·
   exact⟨‹_›,hx⟩
  ·
   cases hx
 have hFabs:∀ i,id≤i→i<id+F.length→lget σ1.locs i=none∧900≤i:=fun i g1 g2 =>
  ⟨qem F 0 hab i (by omega) (by omega),qkB F 0 hab i (by omega) (by omega)⟩
 let ρ2:Ids:=mrg ρ1 ρF
 have hρ2:∀ i x,ρ1 i=some x→ρ2 i=some x:=fun i x hx=>by
  show mrg ρ1 ρF i=some x
  unfold mrg
  cases hf:ρF i with
  |none=>exact hx
  |some y =>
   obtain⟨⟨g1,g2⟩,-⟩:=hF i y hf
   have:=h1.st.dom i (hFabs i g1 g2).1
   rw[this] at hx;cases hx
 have hρ2F:∀ i x,ρF i=some x→ρ2 i=some x:=fun i x hx=>by
  show mrg ρ1 ρF i=some x
  unfold mrg;rw[hx]
 have hρ2inv:∀ i x,ρ2 i=some x→ρF i=some x∨ρ1 i=some x:=fun i x hx=>by
  have hx:mrg ρ1 ρF i=some x:=hx
  unfold mrg at hx
  split at hx
  ·
   rename_i y hy;exact .inl (hy.trans hx)
  ·
   exact .inr hx
 have hnF:∀ n x,l.length≤n→ρ' n=some x→n-l.length<F.length:=fun n x hn hx=>by
  rcases Nat.lt_or_ge (n-l.length) F.length with g|g
  ·
   exact g
  ·
   have:LR l.length bs F n=none:=by
    unfold LR
    rw[if_neg (by omega),List.getElem?_eq_none g]
   rw[hr.dom n this] at hx;cases hx
 have hnum_ok:∀ n x,ρ' n=some x→ρ2 (hnum l l.length id n)=some x:=fun n x hx=>by
  unfold hnum
  split
  ·
   rename_i hlt
   have hlt:n<l.length:=by simpa [Nat.blt,Nat.succ_le_iff] using hlt
   obtain⟨i,b,g1,g2,-⟩:=hpin n x hlt hx
   rw[q3f g1]
   exact hρ2 _ _ g2
  ·
   rename_i hlt
   have hge:l.length≤n:=by
    rcases Nat.lt_or_ge n l.length with g|g
    ·
     have:Nat.blt n l.length=true:=by simpa [Nat.blt,Nat.succ_le_iff] using g
     rw[this] at hlt;cases hlt
    ·
     exact g
   have g:=hnF n x hge hx
   refine hρ2F _ _ ?_
   show (if id≤id+(n-l.length)∧id+(n-l.length)<id+F.length then ρ' (l.length+(id+(n-l.length)-id)) else none)=some x
   rw[if_pos (by omega),show l.length+(id+(n-l.length)-id)=n by omega]
   exact hx
 have hFb:∀ i b m,ρF i=some (some b,m)→(w.heap.size≤b∨∃ q i',l[q]? = some i'∧∃ m',ρ i'=some (some b,m')):=fun i b m hx=>by
  obtain⟨-,g⟩:=hF i _ hx
  rcases hr.fresh _ b m g with g|⟨j,m',g⟩
  ·
   exact .inl g
  ·
   obtain⟨q,i',g1,g2⟩:=hlb g
   exact .inr ⟨q,i',g1,m',g2⟩
 have hFne:∀ i j b m m',ρF i=some (some b,m)→ρ1 j=some (some b,m')→False:=fun i j b m m' hi hj=>by
  obtain⟨hj',hjd⟩:=hle1 j _ hj
  obtain⟨-,g⟩:=hF i _ hi
  rcases hFb i b m hi with g1|⟨q,i',g1,m1,g2⟩
  ·
   have:=h.st.rholt hj';omega
  ·
   have:=h.st.inj _ _ _ _ _ hj' g2
   subst this
   have hq:=(List.getElem?_eq_some_iff.1 g1).1
   cases hb:bs[q]? with
   |none =>
    rw[List.getElem?_eq_none_iff,hr.len] at hb
    omega
   |some ob=>cases ob with
    |none=>exact hjd (qfA g1 hb)
    |some b2 =>
     obtain⟨ob,g3,-⟩:=hr.blk q b2 (by unfold LR;rw[if_pos hq,hb];rfl)
     obtain⟨i2,b3,g4,g5,-⟩:=hpin q ob hq g3
     rw[g1] at g4
     simp only[Option.some.injEq] at g4
     subst g4
     rw[hj] at g5
     simp only[Option.some.injEq] at g5
     subst g5
     have:=hr.inj _ _ _ _ _ g g3
     omega
 have himb:∀ b,im b→w'.heap[b]? = w.heap[b]?:=fun b hb=>hr.frame b (h.st.imlt b hb) fun i m hx=>by
  obtain⟨q,i',-,g2⟩:=hlb hx
  exact h.st.notim _ _ _ g2 hb
 have hρ1lt:∀ i b m,ρ1 i=some (some b,m)→b<w.heap.size:=fun i b m hx=>h1.st.rholt hx
 have hst:=h1.st.swap (w':=w') (im2:=fun b=>im b∨im' b) (ρ2:=ρ2) (L2:=lget (layG (setB (hnum l l.length id) σ1.locs l bs) (hnum l l.length id) id 0 F)) hρ2 himb (fun _ h=>.inl h)
  (fun i b m hx=>hr.shp b (hρ1lt i b m hx))
  (fun i hi=>by
   rw[qja] at hi
   cases hx:ρ2 i with
   |none=>rfl
   |some x =>
    exfalso
    split at hi
    ·
     rename_i hc
     rw[List.getElem?_eq_getElem (show i-(0+id)<F.length by omega)] at hi
     cases hi
    ·
     rename_i hc
     rcases hρ2inv i x hx with g|g
     ·
      have:=(hF i x g).1;omega
     ·
      have g1:lget σ1.locs i≠none:=fun e=>by rw[h1.st.dom i e] at g;cases g
      obtain⟨s1,s2,s3⟩:=qdM (f:=hnum l l.length id) l bs σ1.locs hnd hin1
      rcases Classical.em (∃ (j:Nat) (b:Blk),l[j]? = some i∧bs[j]? = some (some b)) with ⟨j,b,e1,e2⟩|e
      ·
       rw[s1 j i b e1 e2] at hi;cases hi
      ·
       rw[s2 i fun(j:Nat) (b:Blk) e1 e2=>e ⟨j,b,e1,e2⟩] at hi;exact g1 hi)
  (fun i b hi=>by
   rw[qja] at hi
   split at hi
   ·
    rename_i hc
    cases hFi:F[i-(0+id)]? with
    |none=>rw[hFi] at hi;cases hi
    |some b0 =>
     rw[hFi] at hi
     simp only[Option.map_some,Option.some.injEq] at hi
     subst hi
     obtain⟨ob,g1,g2⟩:=hr.blk (l.length+(i-id)) b0 (by
      unfold LR
      rw[if_neg (by omega),Nat.add_sub_cancel_left]
      rw[Nat.zero_add] at hFi;exact hFi)
     refine⟨ob,hρ2F i ob ?_,?_⟩
     ·
      show (if id≤i∧i<id+F.length then ρ' (l.length+(i-id)) else none)=some ob
      rw[if_pos (by omega)];exact g1
     ·
      exact qo4 (g2.stable (im':=fun b=>im b∨im' b) (fun _ _=>rfl) (fun _ h=>.inr h) (fun _ _ h=>h) (fun _ _ _ _=>rfl) (fun _ _=>rfl)) _ hnum_ok
   ·
    obtain⟨s1,s2,s3⟩:=qdM (f:=hnum l l.length id) l bs σ1.locs hnd hin1
    rcases Classical.em (∃ (j:Nat) (b:Blk),l[j]? = some i∧bs[j]? = some (some b)) with ⟨j,b0,e1,e2⟩|e
    ·
     rw[s1 j i b0 e1 e2] at hi
     simp only[Option.some.injEq] at hi
     subst hi
     have hj:=(List.getElem?_eq_some_iff.1 e1).1
     obtain⟨ob,g1,g2⟩:=hr.blk j b0 (by unfold LR;rw[if_pos hj,e2];rfl)
     obtain⟨i2,b3,g4,g5,-⟩:=hpin j ob hj g1
     rw[e1] at g4
     simp only[Option.some.injEq] at g4
     subst g4
     exact⟨ob,hρ2 _ _ g5,qo4 (g2.stable (im':=fun b=>im b∨im' b) (fun _ _=>rfl) (fun _ h=>.inr h) (fun _ _ h=>h) (fun _ _ _ _=>rfl) (fun _ _=>rfl)) _ hnum_ok⟩
    ·
     rw[s2 i fun(j:Nat) (b:Blk) e1 e2=>e ⟨j,b,e1,e2⟩] at hi
     obtain⟨ob,g1,g2⟩:=h1.st.blk i b hi
     refine⟨ob,hρ2 _ _ g1,g2.stable himb (fun _ h=>.inl h) hρ2 (fun i b m hx=>hr.shp b (hρ1lt i b m hx)) fun x hx=>?_⟩
     refine hr.frame x (g2.lt hx) fun i' m hx'=>?_
     obtain⟨q,i2,e1,e2⟩:=hlb hx'
     obtain⟨o1,o2⟩:=ob
     dsimp only at hx
     subst hx
     obtain⟨g1',g1d⟩:=hle1 i _ g1
     have:=h.st.inj _ _ _ _ _ g1' e2
     subst this
     have hq:=(List.getElem?_eq_some_iff.1 e1).1
     cases hb:bs[q]? with
     |none=>rw[List.getElem?_eq_none_iff,hr.len] at hb;omega
     |some ob=>cases ob with
      |none=>exact g1d (qfA e1 hb)
      |some b2=>exact e ⟨q,b2,e1,hb⟩)
  (fun i j b m m' hi hj=>by
   rcases hρ2inv i _ hi with g|g<;>rcases hρ2inv j _ hj with g'|g'
   ·
    obtain⟨⟨e1,e2⟩,e3⟩:=hF i _ g
    obtain⟨⟨e4,e5⟩,e6⟩:=hF j _ g'
    have:=hr.inj _ _ _ _ _ e3 e6
    omega
   ·
    exact(hFne _ _ _ _ _ g g').elim
   ·
    exact(hFne _ _ _ _ _ g' g).elim
   ·
    exact h1.st.inj _ _ _ _ _ g g')
  (fun i b m hi hb=>by
   rcases hρ2inv i _ hi with g|g
   ·
    rcases hb with hb|hb
    ·
     rcases hFb i b m g with g1|⟨q,i',g1,m1,g2⟩
     ·
      have:=h.st.imlt b hb;omega
     ·
      exact h.st.notim _ _ _ g2 hb
    ·
     exact hr.notim _ _ _ (hF i _ g).2 hb
   ·
    rcases hb with hb|hb
    ·
     exact h1.st.notim _ _ _ g hb
    ·
     have hlt:=hρ1lt i b m g
     rcases hr.imnew b hb with g1|g1|⟨j,m',g1⟩
     ·
      exact h1.st.notim _ _ _ g g1
     ·
      omega
     ·
      obtain⟨q,i',e1,e2⟩:=hlb g1
      obtain⟨g',gd⟩:=hle1 i _ g
      have:=h.st.inj _ _ _ _ _ g' e2
      subst this
      have hq:=(List.getElem?_eq_some_iff.1 e1).1
      cases hbq:bs[q]? with
      |none=>rw[List.getElem?_eq_none_iff,hr.len] at hbq;omega
      |some ob=>cases ob with
       |none=>exact gd (qfA e1 hbq)
       |some b2 =>
        obtain⟨ob,g3,-⟩:=hr.blk q b2 (by unfold LR;rw[if_pos hq,hbq];rfl)
        obtain⟨i2,b3,g4,g5,-⟩:=hpin q ob hq g3
        rw[e1] at g4
        simp only[Option.some.injEq] at g4
        subst g4
        rw[g] at g5
        simp only[Option.some.injEq] at g5
        subst g5
        exact hr.notim _ _ _ g3 hb)
  (fun b hb=>by
   rcases hb with hb|hb
   ·
    exact Nat.lt_of_lt_of_le (h.st.imlt b hb) hr.size
   ·
    exact hr.imlt b hb)
  (fun b hb=>by
   rcases hb with hb|hb
   ·
    exact .inl hb
   ·
    rcases hr.imnew b hb with g1|g1|⟨j,m',g1⟩
    ·
     exact .inl g1
    ·
     exact .inr (.inl (Nat.le_trans h.st.size g1))
    ·
     obtain⟨q,i',e1,e2⟩:=hlb g1
     exact .inr (h.st.own _ _ _ e2))
  (fun i b m hi=>by
   rcases hρ2inv i _ hi with g|g
   ·
    rcases hFb i b m g with g1|⟨q,i',g1,m1,g2⟩
    ·
     exact .inl (Nat.le_trans h.st.size g1)
    ·
     exact h.st.own _ _ _ g2
   ·
    exact h1.st.own _ _ _ g)
  (fun i x hlt hi=>by
   rcases hρ2inv i _ hi with g|g
   ·
    obtain⟨⟨e1,e2⟩,-⟩:=hF i _ g
    have:=(hFabs i e1 e2).2
    omega
   ·
    exact h1.st.pin i x hlt g)
  hr.os hr.tape hr.output hr.size
  (fun b hb hn=>hr.frame b (Nat.lt_of_lt_of_le hb h.st.size) fun i m hx=>by
   obtain⟨q,i',e1,e2⟩:=hlb hx
   rcases h.st.own _ _ _ e2 with g|g
   ·
    omega
   ·
    exact hn g)
  (fun b hb=>hr.shp b (Nat.lt_of_lt_of_le (h.st.blt b hb) h.st.size))
 refine⟨_,ρ2,⟨hst,?_⟩,?_⟩
 ·
  exact Uniq.layG (by unfold Uniq;rw[(qdM (f:=hnum l l.length id) l bs σ1.locs hnd hin1).2.2];exact h1.uniq) (qdM (f:=hnum l l.length id) l bs σ1.locs hnd hin1).2.2 F 0 hab
 ·
  exact(hr.rep.stable (im':=fun b=>im b∨im' b) (fun _ _=>rfl) (fun _ h=>.inr h) (fun _ _ h=>h) (fun _ _ _ _=>rfl)).ren _ hnum_ok
end
theorem qkH:∀ {L:Locs} {k:Locs→Prop},qeh L k→k L
 | [],k,h=>h
 |(i,.cells cs)::r,k,h=>by
  unfold qeh at h
  have h1:=qau (k:=fun i=>qrV cs fun cs=>qeh r fun r=>k ((i,.cells cs)::r)) h
  have h2:=qol (k:=fun cs=>qeh r fun r=>k ((i,.cells cs)::r)) h1
  exact qkH (k:=fun r=>k ((i,.cells cs)::r)) h2
 |(i,.row c xs)::r,k,h=>by
  unfold qeh at h
  have h1:=qau (k:=fun i=>qeh r fun r=>k ((i,.row c xs)::r)) h
  exact qkH (k:=fun r=>k ((i,.row c xs)::r)) h1
theorem bindK_ok {lit:Bool}{L:Locs}{k:Locs→Prop}(h:bindK lit L k):k L:=by
 cases lit with
 |true=>exact qkH h
 |false=>exact h
def HA (w:World)(P:Program)(f:FuncId)(s:Spec):Prop :=
 ∀ (im:Nat→Prop) (vals:Array Value) (args:List AV) (k:AV→List (Option Blk)→List Blk→Prop) (o:Oper) (a:Act) (next:Act→World→Prop) (Q:Exit→Act→World→Prop),(∀ b,im b→b<w.heap.size)→Kc w im→vals.size=args.length→(∀ (j:Nat) (v:Value),vals[j]? = some v→Rep w im qai v (nth args j))→s.run args [] k →
  (∀ v w' im' ρ' r F,k r [] F→Res s.ro w w' im im' ρ' v r F→next (a.put o.dst v) w') →
  Oper.upon P o a next Q ((callFunc f vals).run P w)
def qcO (P:Program)(f:FuncId)(s:Spec):Prop:=∀ (w:World),HA w P f s
def HB (w:World)(P:Program)(f:FuncId)(s:Spec):Prop :=
 ∀ (im:Nat→Prop) (ρ0:Ids) (vals:Array Value) (args:List AV) (B:List Blk) (k:AV→List (Option Blk)→List Blk→Prop) (o:Oper) (a:Act) (next:Act→World→Prop) (Q:Exit→Act→World→Prop),(∀ b,im b→b<w.heap.size)→Kc w im→B.length≤100→Lent w im ρ0 (qco s.own 0 B)→vals.size=args.length→(∀ (j:Nat) (v:Value),vals[j]? = some v→Rep w im ρ0 v (nth args j))→s.run args B k →
  (∀ v w' im' ρ' r bs F,k r bs F→ResB w w' im im' ρ0 ρ' v r B.length bs F→next (a.put o.dst v) w') →
  Oper.upon P o a next Q ((callFunc f vals).run P w)
def qmd (P:Program)(f:FuncId)(s:Spec):Prop:=∀ (w:World),HB w P f s
def qbe (P:Program)(f:FuncId)(s:Spec):Prop:=match s.own with
 | []=>qcO P f s
 |_::_=>qmd P f s
theorem qbe.a {P:Program}{f:FuncId}{s:Spec}(h:qbe P f s)(hs:s.own=[]):qcO P f s:=by
 unfold qbe at h;rw[hs] at h;exact h
theorem qcO.h {P:Program}{f:FuncId}{s:Spec}(h:qcO P f s)(hs:s.own=[]):qbe P f s:=by
 unfold qbe;rw[hs];exact h
theorem qbe.b {P:Program}{f:FuncId}{s:Spec}(h:qbe P f s){o:Bool}{os:List Bool}(hs:s.own=o::os):qmd P f s:=by
 unfold qbe at h;rw[hs] at h;exact h
theorem qmd.h {P:Program}{f:FuncId}{s:Spec}(h:qmd P f s)(hs:s.own≠[]):qbe P f s:=by
 unfold qbe
 split
 ·
  exact absurd ‹_› hs
 ·
  exact h
def qbD (n:Nat)(P:Program)(f:FuncId)(s:Spec):Prop:=match s.own with
 | []=>∀ w:World,n≤w.heap.size→HA w P f s
 |_::_=>∀ w:World,n≤w.heap.size→HB w P f s
theorem qbe.n {P:Program}{f:FuncId}{s:Spec}(h:qbe P f s)(n:Nat):qbD n P f s:=by
 unfold qbD
 split
 ·
  exact fun w _=>h.a ‹_› w
 ·
  exact fun w _=>h.b ‹_› w
theorem qbD.mono {P:Program}{f:FuncId}{s:Spec}{m n:Nat}(h:qbD m P f s)(hmn:m≤n):qbD n P f s:=by
 unfold qbD at h ⊢
 split at h
 ·
  exact fun w hw=>h w (Nat.le_trans hmn hw)
 ·
  exact fun w hw=>h w (Nat.le_trans hmn hw)
theorem qbD.a {P:Program}{f:FuncId}{s:Spec}{n:Nat}(h:qbD n P f s)(hs:s.own=[])(w:World)(hw:n≤w.heap.size):HA w P f s:=by
 unfold qbD at h;rw[hs] at h;exact h w hw
theorem qbD.b {P:Program}{f:FuncId}{s:Spec}{n:Nat}(h:qbD n P f s){o:Bool}{os:List Bool}(hs:s.own=o::os)(w:World)(hw:n≤w.heap.size):HB w P f s:=by
 unfold qbD at h;rw[hs] at h;exact h w hw
theorem qbD.of {P:Program}{f:FuncId}{s:Spec}{n:Nat}(hs:s.own=[])(h:∀ w:World,n≤w.heap.size→HA w P f s):qbD n P f s:=by
 unfold qbD;rw[hs];exact h
structure Gam (P:Program) (sp:FuncId→Option Spec) (yw:Nat×Option Nat) (w0:World) (bor:Bor) (im0:Nat→Prop):Prop where
 h:∀ f s,sp f=some s→qbD w0.heap.size P f s
 k:Kc w0 im0
 b:∀ b,im0 b→b<w0.heap.size∧¬ bor.mem b
 yg:yw.1≤w0.heap.size∧∀ b,bor.mem b→yw.1≤b
 wd:∀ n,yw.2=some n→w0.heap.size≤n
theorem Gam.at {P:Program}{sp:FuncId→Option Spec}{yw:Nat×Option Nat}{w0:World}{bor:Bor}{im0 im:Nat→Prop} {ρ:Ids} {σ:AS}{a:Act}{w:World}(g:Gam P sp yw w0 bor im0)(h:SA w0 bor im0 im ρ σ a w):Kc w im :=
 Kc.mono h.st.imold (fun b hb=>h.st.frame b (g.b b hb).1 (g.b b hb).2) g.k
theorem Gam.atH {P:Program}{sp:FuncId→Option Spec}{yw:Nat×Option Nat}{w0:World}{bor:Bor}{im0 im:Nat→Prop} {ρ:Ids} {σ:AS}{a:Act}{w:World}(g:Gam P sp yw w0 bor im0)(h:SA w0 bor im0 im ρ σ a w):Kc w (fun b=>b<w.heap.size) :=
 Kc.mono (fun b hb=>h.st.imlt b hb) (fun _ _=>rfl) (g.at h)
end Go.Eng
