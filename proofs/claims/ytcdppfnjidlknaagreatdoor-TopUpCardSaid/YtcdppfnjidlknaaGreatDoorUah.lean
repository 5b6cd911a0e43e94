import Derived.Test.YtcdppfnjidlknaaGreatDoorUag
namespace Go.Eng
open Go
set_option linter.unusedVariables false
set_option linter.unusedSimpArgs false
section
variable {w0 : World} {bor : Bor} {im0 im : Nat → Prop} {ρ : Ids} {sl : List AV} {gs : List (Nat × Nat × Bool)} {L : Nat → Option Blk} {σ : AS} {a : Act} {w : World}
theorem BRep.stableC {w w':World} {im im':Nat→Prop} {ρ ρ':Ids} {ob:Option Nat×Nat} {b:Blk} (h:BRep w im ρ ob b)
  (hw:∀ b o,im b→w'.cell? ⟨b,o,none⟩=w.cell? ⟨b,o,none⟩) (him:∀ b,im b→im' b) (hρ:∀ i x,ρ i=some x→ρ' i=some x)
  (hs:∀ i b m,ρ i=some (some b,m)→w'.shape? b=w.shape? b) (hz:∀ b o x,im b→w.cell? ⟨b,o,none⟩=some x→w.frozen? ⟨b,o,none⟩=false→w'.frozen? ⟨b,o,none⟩=false) (hb:∀ x,ob.1=some x→w'.heap[x]? = w.heap[x]?):BRep w' im' ρ' ob b:=by
 cases b with
 | cells cs =>
  obtain⟨b,cur,e,h1,h2,h3,h4,h5⟩:=h
  exact⟨b,cur,e,h1,(hb b h1).trans h2,h3,h4,fun j v hj=>(h5 j v hj).stableC hw him hρ hs hz⟩
 | row c xs =>
  obtain⟨h0,h⟩:=h
  refine⟨h0,h.imp id ?_⟩
  rintro⟨b,cur,e,cap,h1,h2,h3,h4,h5,h6,h7⟩
  exact⟨b,cur,e,cap,h1,(hb b h1).trans h2,h3,h4,h5,h6,fun i j x v hx hj hv=>(h7 i j x v hx hj hv).stableC hw him (fun _ _ h=>h) (fun _ _ _ h=>by simp[qai] at h) hz⟩
theorem St.mark (h:St w0 bor im0 im ρ sl gs L a w) {b:Nat} {w':World} (hkeep:∀ x,x≠b→w'.heap[x]? = w.heap[x]?) (hcell:∀ o,w'.cell? ⟨b,o,none⟩=w.cell? ⟨b,o,none⟩) (hfz:∀ o x,w.cell? ⟨b,o,none⟩=some x→w.frozen? ⟨b,o,none⟩=false→w'.frozen? ⟨b,o,none⟩=false) (hshape:w'.shape? b=w.shape? b) (hρ:∀ i m,ρ i≠some (some b,m)) (hown:w0.heap.size≤b∨bor.mem b)
  (hos:w'.os=w.os) (ht:w'.tape=w.tape) (ho:w'.output=w.output) (hsz:w.heap.size≤w'.heap.size):St w0 bor im0 im ρ sl gs L a w':=by
 have h1:∀ x o,im x→w'.cell? ⟨x,o,none⟩=w.cell? ⟨x,o,none⟩:=fun x o hx=>by
  by_cases e:x=b
  ·
   subst e; exact hcell o
  ·
   exact World.cell?_of_block (w:=w) (hkeep x e)
 have h3:∀ x o y,im x→w.cell? ⟨x,o,none⟩=some y→w.frozen? ⟨x,o,none⟩=false→w'.frozen? ⟨x,o,none⟩=false:=fun x o y hx hc hf=>by
  by_cases e:x=b
  ·
   subst e; exact hfz o y hc hf
  ·
   have e2:w'.frozen? ⟨x,o,none⟩=w.frozen? ⟨x,o,none⟩:=by simp only[World.frozen?,hkeep x e]
   rw[e2]; exact hf
 have h2:∀ j x m',ρ j=some (some x,m')→w'.shape? x=w.shape? x:=fun j x m' hx=>qbb (hkeep x (by rintro rfl; exact hρ _ _ hx))
 exact{h with
  slot:=fun j v hv=>by
   have hs:=h.slot j v hv
   unfold SRep at hs ⊢
   split
   ·
    rename_i hg; rw[hg] at hs; exact hs.stableC h1 (fun _ h=>h) (fun _ _ h=>h) h2 h3
   ·
    rename_i tc wt hg
    rw[hg] at hs
    exact⟨fun e=>(hs.1 e).stableC h1 (fun _ h=>h) (fun _ _ h=>h) h2 h3,hs.2⟩
  blk:=fun j b' hb'=>by
   obtain⟨ob,h5,h4⟩:=h.blk j b' hb'
   refine⟨ob,h5,h4.stableC h1 (fun _ h=>h) (fun _ _ h=>h) h2 h3 (fun x hx=>hkeep x ?_)⟩
   rintro rfl
   obtain⟨o1,o2⟩:=ob
   dsimp only at hx
   subst hx
   exact hρ _ _ h5
  imlt:=fun b hb=>Nat.lt_of_lt_of_le (h.imlt b hb) hsz
  os:=hos.trans h.os
  tape:=ht.trans h.tape
  output:=ho.trans h.output
  size:=Nat.le_trans h.size hsz
  shp:=fun x hx=>by
   by_cases e:x=b
   ·
    subst e; exact hshape.trans (h.shp x hx)
   ·
    exact(qbb (hkeep x e)).trans (h.shp x hx)
  frame:=fun x hx hn=>by
   refine(hkeep x ?_).trans (h.frame x hx hn)
   rintro rfl
   rcases hown with h5 | h5
   ·
    omega
   ·
    exact hn h5}
theorem qbm (w:World) (b n:Nat) (k:Nat) (x:Nat) (hx:x≠b):(w.freeze ⟨b,n,none⟩ k).heap[x]? = w.heap[x]?:=by
 unfold World.freeze
 split
 ·
  rfl
 ·
  simp[Array.getElem?_modify,Ne.symm hx]
theorem qhx (w:World) (b n k o:Nat):(w.freeze ⟨b,n,none⟩ k).cell? ⟨b,o,none⟩=w.cell? ⟨b,o,none⟩:=by
 unfold World.freeze
 split
 ·
  rfl
 ·
  simp only[World.cell?,Array.getElem?_modify]
  cases h:w.heap[b]? with
  | none=>simp
  | some ob=>cases ob <;> simp
theorem qiu (w:World) (b o:Nat) (cur:Array Value) (e:TypeId) (hh:w.heap[b]? = some (.cells cur e (0,0))) (x:Value) (hc:w.cell? ⟨b,o,none⟩=some x):(w.freeze ⟨b,cur.size,none⟩ 1).frozen? ⟨b,o,none⟩=false:=by
 have ho:o<cur.size:=by
  simp only[World.cell?,hh] at hc
  simp at hc
  exact qfc hc
 unfold World.freeze
 rw[if_neg (by decide)]
 simp only[World.frozen?,Array.getElem?_modify,hh]
 simp
 omega
theorem ql0 (w:World) (b n k x:Nat):(w.freeze ⟨b,n,none⟩ k).shape? x=w.shape? x:=by
 by_cases hx:x=b
 ·
  subst hx
  unfold World.freeze
  split
  ·
   rfl
  ·
   simp only[World.shape?,Array.getElem?_modify,if_pos]
   cases h:w.heap[x]? with
   | none=>simp
   | some ob=>cases ob <;> simp
 ·
  simp[World.shape?,qbm w b n k x hx]
theorem qn8 (w:World) (b n k:Nat):(w.freeze ⟨b,n,none⟩ k).heap.size=w.heap.size:=by
 unfold World.freeze
 split <;> simp
theorem qtX {env:Env} (h:SA w0 bor im0 im ρ σ a w) {o:Oper} {s d:TypeId} {x:Operand} (ho:o.op=.convert s d x) {id:Nat} {k:AS→Prop} {next:Act→World→Prop} {Q:Exit→Act→World→Prop} {g:Gd}
  (hg:GdOK a g) (hv:eop env σ g o id k) (hn:Then (qby env) w o w0 bor im0 k next):o.wp env.P a w next Q:=by
 unfold eop at hv
 rw[ho] at hv
 dsimp only at hv
 split at hv
 ·
  rename_i e e' c i o' n hs hd hx hcl
  split at hv
  ·
   rename_i hsd hu8' hu8
   have hsd:=nbeq hsd
   subst hsd
   split at hv
   ·
    rename_i c' xs hl
    split at hv
    ·
     rename_i hcc
     have hcc:=nbeq hcc
     subst hcc
     obtain⟨hpos,hv⟩:=qc6 hv
     have hv:=qrl hv
     have hr:=h.ev hg x
     rw[hx] at hr
     obtain⟨im',ρ',h',hsub,habs,hfz,hkρ⟩:=h.freeze i
     have hr':=hfz _ _ hr
     rw[hl] at hr'
     have hbe:Nat.beq i i=true:=Nat.beq_refl i
     have hce:Nat.beq c c=true:=Nat.beq_refl c
     simp only[frz,hbe,hce] at hr'
     obtain⟨b,off,cap,m,hav,hρb⟩:∃ b off cap m,a.eval x=.slice (some ⟨b,off,none⟩) n cap∧ρ i=some (some b,m):=by
      generalize a.eval x=u at hr
      cases hr with
      | row0=>omega
      | row h1=>exact⟨_,_,_,_,rfl,h1⟩
      | rowE=>omega
     obtain⟨ob,h1,hB⟩:=h.st.blk i _ hl
     rw[hρb] at h1
     simp only[Option.some.injEq] at h1
     subst h1
     obtain⟨hk,hB⟩:=hB
     dsimp only at hk hB
     rcases hB with ⟨g1,-⟩ | ⟨b',cur,e2,cap',g1,hh,hsz,hcap,hm,hone,hrep⟩
     ·
      cases g1
     simp only[Option.some.injEq] at g1
     subst g1
     have hshape:w.shape? b=some (e2,cur.size):=by simp[World.shape?,hh]
     have hnρ:∀ j m',ρ' j≠some (some b,m'):=fun j m' hj=>by
      by_cases hjn:lget (σ.freeze i).locs j=none
      ·
       have:=h'.st.dom j hjn; rw[this] at hj; cases hj
      ·
       have hj2:=hj
       rw[hkρ j hjn] at hj2
       have:=h.st.inj j i b _ _ hj2 hρb
       subst this
       exact hjn (by
        unfold AS.freeze
        rw[hl]
        show lget (lmap _ (ldel σ.locs j)) j=none
        rw[qaZ,qc4 h.uniq,if_pos rfl]; rfl)
     have hst:=h'.st.mark (w':=w.freeze ⟨b,cur.size,none⟩ 1) (b:=b) (fun y hy=>qbm _ _ _ _ y hy) (fun o=>qhx _ _ _ _ o) (fun o x hc _=>qiu w b o cur e2 hh x hc) (ql0 _ _ _ _ _) hnρ (h.st.own i b _ hρb)
      (by unfold World.freeze; split <;> rfl) (by unfold World.freeze; split <;> rfl) (by unfold World.freeze; split <;> rfl) (by rw[qn8]; exact Nat.le_refl _)
     have hSA:SA w0 bor im0 im' ρ' (σ.freeze i) a (w.freeze ⟨b,cur.size,none⟩ 1):=⟨hst,h'.uniq⟩
     refine qaF (v:=.slice (some ⟨b,off,none⟩) n cap) (w':=w.freeze ⟨b,cur.size,none⟩ 1) ?_ (hn _ _ _ _ _ hv (hSA.put ((qlz _ _ _).trans hcl) ?_) fun _=>⟨by rw[qn8]; exact Nat.le_refl _,fun b2 _=>⟨fun o=>by
       by_cases e:b2=b
       ·
        subst e; exact qhx _ _ _ _ _
       ·
        simp[World.cell?,qbm _ _ _ _ _ e],ql0 _ _ _ _ _⟩⟩)
     ·
      simp only[execOp,ho,hav,convert,Sem.run_bind,run_underlying hs,run_underlying hu8,Result.andThen_ok]
      simp[run_underlying hu8,markStringish,hshape]
     ·
      rw[hav] at hr'
      exact hr'.stableC (fun b2 o2 _=>by
       by_cases e:b2=b
       ·
        subst e; exact qhx _ _ _ _ _
       ·
        exact World.cell?_of_block (w:=w) (qbm _ _ _ _ b2 e)) (fun _ h=>h) (fun _ _ h=>h) (fun j b2 m' hj=>qbb (qbm _ _ _ _ b2 (by rintro rfl; exact hnρ _ _ hj))) (fun b2 o2 y _ hc hf=>by
       by_cases e:b2=b
       ·
        subst e; exact qiu w b2 o2 cur e2 hh y hc
       ·
        have e3:(w.freeze ⟨b,cur.size,none⟩ 1).frozen? ⟨b2,o2,none⟩=w.frozen? ⟨b2,o2,none⟩:=by simp only[World.frozen?,qbm _ _ _ _ b2 e]
        rw[e3]; exact hf)
    ·
     exact hv.elim
   ·
    exact hv.elim
  ·
   exact hv.elim
 ·
  exact hv.elim
end
end Go.Eng
namespace Go.Eng
open Go
set_option linter.unusedVariables false
set_option linter.unusedSimpArgs false
structure Res (ro:Bool) (w w':World) (im im':Nat→Prop) (ρ':Ids) (v:Value) (r:AV) (F:List Blk):Prop where
 below:RowKit.Below w.heap.size w w'
 imold:ro=false→∀ b,im b→im' b
 imnew:∀ b,im' b→(ro=false∧im b)∨(w.heap.size≤b∧b<w'.heap.size)
 dom:∀ j,F[j]? = none→ρ' j=none
 blk:∀ j b,F[j]? = some b→∃ ob,ρ' j=some ob∧BRep w' im' ρ' ob b
 inj:∀ i j b m m',ρ' i=some (some b,m)→ρ' j=some (some b,m')→i=j
 notim:∀ i b m,ρ' i=some (some b,m)→¬ im' b
 fresh:∀ i b m,ρ' i=some (some b,m)→w.heap.size≤b
 rep:Rep w' im' ρ' v r
theorem qaQ (f:Nat→Nat):∀ (l:List AV),renL f l=l.map (ren f)
 | []=>rfl
 | a::r=>by simp[renL,qaQ f r]
section
variable {w0 w : World} {bor : Bor} {im0 im : Nat → Prop} {ρ : Ids} {sl : List AV} {gs : List (Nat × Nat × Bool)} {L : Nat → Option Blk} {σ : AS} {a : Act}
theorem Rep.ren {ρ ρ2:Ids} {v:Value} {x:AV} (h:Rep w im ρ v x) (f:Nat→Nat) (hf:∀ i x,ρ i=some x→ρ2 (f i)=some x):Rep w im ρ2 v (Eng.ren f x):=by
 induction h generalizing ρ2 with
 | int h=>exact .int h
 | bool=>exact .bool
 | str h=>exact .str h
 | nilptr=>exact .nilptr
 | nilsl=>exact .nilsl
 | nilfn=>exact .nilfn
 | sl0=>exact .sl0
 | emp=>exact .emp
 | sl hb hn hcap hm vals hcell hone hrep ih=>exact .sl hb hn hcap hm vals hcell hone hrep
 | iref hb ho vals hcell hone hrep ih=>exact .iref hb ho vals hcell hone hrep
 | row0 h=>exact .row0 (hf _ _ h)
 | row h hle ho hn hm hs=>exact .row (hf _ _ h) hle ho hn hm hs
 | rowE h ho hm=>exact .rowE (hf _ _ h) ho hm
 | ptr h=>exact .ptr (hf _ _ h)
 | eptr h ho=>exact .eptr (hf _ _ h) ho
 | agg hl hone h ih =>
  unfold Eng.ren
  rw[qaQ]
  exact .agg (by simpa using hl) hone fun j v hj=>by rw[qag (by rfl)]; exact ih j v hj hf
 | tup hl h ih =>
  unfold Eng.ren
  rw[qaQ]
  exact .tup (by simpa using hl) fun j v hj=>by rw[qag (by rfl)]; exact ih j v hj hf
 | fn hl hl' h h' ih ih' =>
  unfold Eng.ren
  rw[qaQ,qaQ]
  exact .fn (by simpa using hl) (by simpa using hl') (fun j v hj=>by rw[qag (by rfl)]; exact ih j v hj hf) (fun j v hj=>by rw[qag (by rfl)]; exact ih' j v hj hf)
 | dead=>exact .dead
 | val=>exact .val
 | both h h'=>exact .both h h'
 | wsl hn hm h0 h=>exact .wsl hn hm h0 h
 | wref hb hn hx1 hc1 hf1=>exact .wref hb hn hx1 hc1 hf1
 | anyb h=>exact .anyb h
theorem BRep.ren {ρ ρ2:Ids} {ob:Option Nat×Nat} {b:Blk} (h:BRep w im ρ ob b) (f:Nat→Nat) (hf:∀ i x,ρ i=some x→ρ2 (f i)=some x):BRep w im ρ2 ob (match b with | .cells cs=>.cells (renL f cs) | .row c xs=>.row c xs):=by
 cases b with
 | cells cs =>
  obtain⟨b,cur,e,h1,h2,h3,h4,h5⟩:=h
  exact⟨b,cur,e,h1,h2,by rw[qaQ]; simpa using h3,h4,fun j v hj=>by rw[qaQ,qag (by rfl)]; exact(h5 j v hj).ren f hf⟩
 | row c xs=>exact h
theorem qn9:∀ {v:Value} {x:AV} {ρ:Ids},Rep w im ρ v x→qeX x=true→Rep w im qai v x:=by
 have L1:∀ (l:List AV),qbZ l=true→∀ j,j<l.length→qeX (nth l j)=true:=by
  intro l
  induction l with
  | nil=>intro _ j hj; simp at hj
  | cons x r ih =>
   intro h j hj
   simp only[qbZ,Bool.and_eq_true] at h
   cases j with
   | zero=>exact h.1
   | succ j=>exact ih h.2 j (by simpa using hj)
 intro v x ρ h hx
 induction h with
 | int h=>exact .int h
 | bool=>exact .bool
 | str h=>exact .str h
 | nilptr=>exact .nilptr
 | nilsl=>exact .nilsl
 | nilfn=>exact .nilfn
 | sl0=>exact .sl0
 | emp=>exact .emp
 | sl hb hn hcap hm vals hcell hone hrep ih=>exact .sl hb hn hcap hm vals hcell hone hrep
 | iref hb ho vals hcell hone hrep ih=>exact .iref hb ho vals hcell hone hrep
 | row0 h=>simp[qeX] at hx
 | row h hle ho hn hm hs=>simp[qeX] at hx
 | rowE h ho hm=>simp[qeX] at hx
 | ptr h=>simp[qeX] at hx
 | eptr h ho=>simp[qeX] at hx
 | agg hl hone h ih=>exact .agg hl hone fun j v hj=>ih j v hj (L1 _ hx j (by rw[← hl]; exact qfc hj))
 | tup hl h ih=>exact .tup hl fun j v hj=>ih j v hj (L1 _ hx j (by rw[← hl]; exact qfc hj))
 | fn hl hl' h h' ih ih' =>
  simp only[qeX,Bool.and_eq_true] at hx
  exact .fn hl hl' (fun j v hj=>ih j v hj (L1 _ hx.1 j (by rw[← hl]; exact qfc hj))) (fun j v hj=>ih' j v hj (L1 _ hx.2 j (by rw[← hl']; exact qfc hj)))
 | dead=>exact .dead
 | val=>exact .val
 | both h h'=>exact .both h h'
 | wsl hn hm h0 h=>exact .wsl hn hm h0 h
 | wref hb hn hx1 hc1 hf1=>exact .wref hb hn hx1 hc1 hf1
 | anyb h=>exact .anyb h
theorem qnA:∀ (l:List AV),qbZ l=true→∀ j,qeX (nth l j)=true:=by
 intro l
 induction l with
 | nil=>intro _ j; rfl
 | cons x r ih =>
  intro h j
  simp only[qbZ,Bool.and_eq_true] at h
  cases j with
  | zero=>exact h.1
  | succ j=>exact ih h.2 j
def mrg (ρ ρF:Ids):Ids:=fun i=>match ρF i with
 | some x=>some x
 | none=>ρ i
def mrgL (L LF:Nat→Option Blk):Nat→Option Blk:=fun i=>match LF i with
 | some x=>some x
 | none=>L i
theorem St.imUp (h:St w0 bor im0 im ρ sl gs L a w) {im':Nat→Prop} (hsub:∀ b,im b→im' b) (hnew:∀ b,im' b→im b∨(w0.heap.size≤b∧b<w.heap.size∧∀ i m,ρ i≠some (some b,m))):St w0 bor im0 im' ρ sl gs L a w :=
 {h with
  slot:=fun i v hv=>by
   have hs:=h.slot i v hv
   unfold SRep at hs ⊢
   split
   ·
    rename_i hg; rw[hg] at hs; exact hs.stable (fun _ _=>rfl) hsub (fun _ _ h=>h) (fun _ _ _ _=>rfl)
   ·
    rename_i tc wt hg
    rw[hg] at hs
    exact⟨fun e=>(hs.1 e).stable (fun _ _=>rfl) hsub (fun _ _ h=>h) (fun _ _ _ _=>rfl),hs.2⟩
  blk:=fun i b hb=>by
   obtain⟨ob,h1,h2⟩:=h.blk i b hb
   exact⟨ob,h1,h2.stable (fun _ _=>rfl) hsub (fun _ _ h=>h) (fun _ _ _ _=>rfl) (fun _ _=>rfl)⟩
  notim:=fun i b m hi hb=>by
   rcases hnew b hb with h1 | h1
   ·
    exact h.notim i b m hi h1
   ·
    exact h1.2.2 i m hi
  imlt:=fun b hb=>by
   rcases hnew b hb with h1 | h1
   ·
    exact h.imlt b h1
   ·
    exact h1.2.1
  imold:=fun b hb=>hsub b (h.imold b hb)
  imnew:=fun b hb=>by
   rcases hnew b hb with h1 | h1
   ·
    exact h.imnew b h1
   ·
    exact .inr (.inl h1.1)}
theorem St.addF (h:St w0 bor im0 im ρ sl gs L a w) {ρF:Ids} {LF:Nat→Option Blk} (habs:∀ i b,LF i=some b→L i=none) (hdom:∀ i,LF i=none→ρF i=none)
  (hblk:∀ i b,LF i=some b→∃ ob,ρF i=some ob∧BRep w im ρF ob b) (hinj:∀ i j b m m',ρF i=some (some b,m)→ρF j=some (some b,m')→i=j)
  (hge:∀ i b,LF i=some b→900≤i) (hnot:∀ i b m,ρF i=some (some b,m)→¬ im b∧(∀ j m',ρ j≠some (some b,m'))∧(w0.heap.size≤b∨bor.mem b)) :
  St w0 bor im0 im (mrg ρ ρF) sl gs (mrgL L LF) a w:=by
 have hF:∀ i x,ρF i=some x→L i=none:=fun i x hi=>by
  cases hl:LF i with
  | none=>rw[hdom i hl] at hi; cases hi
  | some b=>exact habs i b hl
 have hρ:∀ i x,ρ i=some x→mrg ρ ρF i=some x:=by
  intro i x hi
  unfold mrg
  cases hf:ρF i with
  | none=>exact hi
  | some y =>
   have:=h.dom i (hF i y hf)
   rw[this] at hi; cases hi
 have hρF:∀ i x,ρF i=some x→mrg ρ ρF i=some x:=by
  intro i x hi; unfold mrg; rw[hi]
 exact{h with
  slot:=fun i v hv=>by
   have hs:=h.slot i v hv
   unfold SRep at hs ⊢
   split
   ·
    rename_i hg; rw[hg] at hs; exact hs.stable (fun _ _=>rfl) (fun _ h=>h) hρ (fun _ _ _ _=>rfl)
   ·
    rename_i tc wt hg
    rw[hg] at hs
    exact⟨fun e=>(hs.1 e).stable (fun _ _=>rfl) (fun _ h=>h) hρ (fun _ _ _ _=>rfl),hs.2⟩
  dom:=fun i hi=>by
   unfold mrgL at hi
   split at hi
   ·
    cases hi
   ·
    rename_i hl
    unfold mrg
    rw[hdom i hl]
    exact h.dom i hi
  blk:=fun i b hb=>by
   unfold mrgL at hb
   split at hb
   ·
    rename_i b' hl
    simp only[Option.some.injEq] at hb
    subst hb
    obtain⟨ob,h1,h2⟩:=hblk i _ hl
    exact⟨ob,hρF _ _ h1,h2.stable (fun _ _=>rfl) (fun _ h=>h) hρF (fun _ _ _ _=>rfl) (fun _ _=>rfl)⟩
   ·
    obtain⟨ob,h1,h2⟩:=h.blk i b hb
    exact⟨ob,hρ _ _ h1,h2.stable (fun _ _=>rfl) (fun _ h=>h) hρ (fun _ _ _ _=>rfl) (fun _ _=>rfl)⟩
  inj:=fun i j b m m' hi hj=>by
   cases h1:ρF i with
   | none =>
    cases h2:ρF j with
    | none =>
     simp only[mrg,h1,h2] at hi hj
     exact h.inj i j b m m' hi hj
    | some y =>
     simp only[mrg,h1,h2,Option.some.injEq] at hi hj
     subst hj
     exact absurd hi ((hnot j b _ h2).2.1 i m)
   | some x =>
    cases h2:ρF j with
    | none =>
     simp only[mrg,h1,h2,Option.some.injEq] at hi hj
     subst hi
     exact absurd hj ((hnot i b _ h1).2.1 j m')
    | some y =>
     simp only[mrg,h1,h2,Option.some.injEq] at hi hj
     subst hi; subst hj
     exact hinj i j b _ _ h1 h2
  notim:=fun i b m hi=>by
   cases h1:ρF i with
   | none=>simp only[mrg,h1] at hi; exact h.notim i b m hi
   | some x =>
    simp only[mrg,h1,Option.some.injEq] at hi
    subst hi
    exact(hnot i b _ h1).1
  own:=fun i b m hi=>by
   cases h1:ρF i with
   | none=>simp only[mrg,h1] at hi; exact h.own i b m hi
   | some x =>
    simp only[mrg,h1,Option.some.injEq] at hi
    subst hi
    exact(hnot i b _ h1).2.2
  pin:=fun i x hlt hi=>by
   cases h1:ρF i with
   | none=>simp only[mrg,h1] at hi; exact h.pin i x hlt hi
   | some y =>
    cases h2:LF i with
    | none=>rw[hdom i h2] at h1; cases h1
    | some b=>have:=hge i b h2; omega}
theorem qnB (L:Locs) (s:Nat):∀ (F:List Blk) (j i:Nat),lget (layF L s j F) i=if j+s≤i∧i<j+s+F.length then (F[i - (j+s)]?).map (qdM s) else lget L i
 | [],j,i=>by simp[layF]; intros; omega
 | b::r,j,i=>by
  simp only[layF,lget]
  split
  ·
   rename_i h
   have:=nbeq h
   subst this
   rw[if_pos (by simp)]
   simp
  ·
   rename_i h
   have hne:=qbz h
   rw[qnB L s r (j+1) i]
   simp only[List.length_cons]
   by_cases h1:j+1+s≤i∧i<j+1+s+r.length
   ·
    rw[if_pos h1,if_pos (by omega)]
    have e:i - (j+s)=(i - (j+1+s))+1:=by omega
    rw[e,List.getElem?_cons_succ]
   ·
    rw[if_neg h1,if_neg (by omega)]
theorem qdS {L:Locs} {s:Nat}:∀ (F:List Blk) (j:Nat),qaM L s j F=true→∀ i,j+s≤i→i<j+s+F.length→lget L i=none
 | [],j,_,i,h1,h2=>by simp at h2; omega
 | b::r,j,h,i,h1,h2=>by
  simp only[qaM,Bool.and_eq_true] at h
  simp only[List.length_cons] at h2
  by_cases e:i=j+s
  ·
   subst e; exact qaB h.1
  ·
   exact qdS r (j+1) h.2 i (by omega) (by omega)
theorem qka {L:Locs} {s:Nat}:∀ (F:List Blk) (j:Nat),qaM L s j F=true→∀ i,j+s≤i→i<j+s+F.length→900≤i
 | [],j,_,i,h1,h2=>by simp at h2; omega
 | b::r,j,h,i,h1,h2=>by
  simp only[qaM,Bool.and_eq_true] at h
  simp only[List.length_cons] at h2
  by_cases e:i=j+s
  ·
   subst e; exact qba h.1
  ·
   exact qka r (j+1) h.2 i (by omega) (by omega)
theorem Uniq.layF {L:Locs} {s:Nat} (hL:Uniq L):∀ (F:List Blk) (j:Nat),qaM L s j F=true→Uniq (Eng.layF L s j F)
 | [],j,_=>hL
 | b::r,j,h=>by
  simp only[qaM,Bool.and_eq_true] at h
  refine Uniq.cons (Uniq.layF hL r (j+1) h.2) ?_ _
  rw[qnB,if_neg (by omega)]
  exact qaB h.1
theorem SA.called (h:SA w0 bor im0 im ρ σ a w) {ro:Bool} {imc im':Nat→Prop} {w':World} {ρ':Ids} {v:Value} {r:AV} {F:List Blk} (hr:Res ro w w' imc im' ρ' v r F)
  (himc:ro=false→∀ b,imc b↔im b) {id:Nat} (hab:qaM σ.locs id 0 F=true) :
  ∃ im2 ρ2,SA w0 bor im0 im2 ρ2 ⟨σ.slots,σ.gs,layF σ.locs id 0 F⟩ a w'∧Rep w' im2 ρ2 v (ren (· + id) r):=by
 have hsz:=hr.below.size
 have h1:=h.st.world (w':=w') (fun b hb=>hr.below.block b hb) hr.below.os hr.below.tape hr.below.output hsz
 have hnewρ:∀ i b m,ρ i=some (some b,m)→b<w.heap.size:=fun i b m hi=>h.st.rholt hi
 have hup:∀ b,im' b→im b∨(w.heap.size≤b∧b<w'.heap.size):=fun b hb=>by
  rcases hr.imnew b hb with ⟨h2,h3⟩ | h2
  ·
   exact .inl ((himc h2 b).1 h3)
  ·
   exact .inr h2
 have h2:=h1.imUp (im':=fun b=>im b∨im' b) (fun _ h=>.inl h) (fun b hb=>by
  rcases hb with hb | hb
  ·
   exact .inl hb
  ·
   rcases hup b hb with h3 | h3
   ·
    exact .inl h3
   ·
    exact .inr ⟨Nat.le_trans h.st.size h3.1,h3.2,fun i m hi=>by have:=hnewρ i b m hi; omega⟩)
 let ρF:Ids:=fun i=>if id≤i then ρ' (i - id) else none
 have hsh:∀ i x,ρ' i=some x→ρF (i+id)=some x:=fun i x hi=>by
  show (if id≤i+id then ρ' (i+id - id) else none)=some x
  rw[if_pos (by omega),Nat.add_sub_cancel]; exact hi
 have hinv:∀ i x,ρF i=some x→id≤i∧ρ' (i - id)=some x:=fun i x hi=>by
  have hi:(if id≤i then ρ' (i - id) else none)=some x:=hi
  split at hi
  ·
   exact⟨‹_›,hi⟩
  ·
   cases hi
 let LF:Nat→Option Blk:=fun i=>if 0+id≤i∧i<0+id+F.length then (F[i - (0+id)]?).map (qdM id) else none
 have hLF:∀ i b,LF i=some b→0+id≤i∧i<0+id+F.length∧∃ b',F[i - id]? = some b'∧b=qdM id b':=fun i b hi=>by
  have hi:(if 0+id≤i∧i<0+id+F.length then (F[i - (0+id)]?).map (qdM id) else none)=some b:=hi
  split at hi
  ·
   rename_i hc
   rw[Nat.zero_add] at hi
   cases hF:F[i - id]? with
   | none=>rw[hF] at hi; cases hi
   | some b'=>rw[hF] at hi; exact⟨hc.1,hc.2,b',rfl,(Option.some.inj hi).symm⟩
  ·
   cases hi
 have h3:=h2.addF (ρF:=ρF) (LF:=LF) (fun i b hi=>qdS F 0 hab i (hLF i b hi).1 (hLF i b hi).2.1)
  (fun i hi=>by
   cases hρ:ρF i with
   | none=>rfl
   | some x =>
    exfalso
    obtain⟨g1,g2⟩:=hinv i x hρ
    have hlt:i - id<F.length:=by
     rcases Nat.lt_or_ge (i - id) F.length with h4 | h4
     ·
      exact h4
     ·
      rw[hr.dom _ (List.getElem?_eq_none h4)] at g2; cases g2
    have hi:(if 0+id≤i∧i<0+id+F.length then (F[i - (0+id)]?).map (qdM id) else none)=none:=hi
    rw[if_pos (by omega),Nat.zero_add,List.getElem?_eq_getElem hlt] at hi
    cases hi)
  (fun i b hi=>by
   obtain⟨g1,g2,b',g3,rfl⟩:=hLF i b hi
   obtain⟨ob,g4,g5⟩:=hr.blk _ _ g3
   refine⟨ob,?_,?_⟩
   ·
    have:=hsh _ _ g4
    have e:i - id+id=i:=by omega
    rw[e] at this; exact this
   ·
    have g6:=(g5.stable (im':=fun b=>im b∨im' b) (fun _ _=>rfl) (fun _ h=>.inr h) (fun _ _ h=>h) (fun _ _ _ _=>rfl) (fun _ _=>rfl)).ren (· + id) hsh
    cases b' <;> exact g6)
  (fun i j b m m' hi hj=>by
   obtain⟨g1,g2⟩:=hinv i _ hi
   obtain⟨g3,g4⟩:=hinv j _ hj
   have:=hr.inj _ _ b m m' g2 g4
   omega)
  (fun i b hi=>qka F 0 hab i (hLF i b hi).1 (hLF i b hi).2.1)
  (fun i b m hi=>by
   obtain⟨g1,g2⟩:=hinv i _ hi
   have hf:=hr.fresh _ b m g2
   refine⟨?_,fun j m' hj=>?_,.inl (Nat.le_trans h.st.size hf)⟩
   ·
    rintro(h4 | h4)
    ·
     have:=h.st.imlt b h4; omega
    ·
     exact hr.notim _ b m g2 h4
   ·
    have:=hnewρ j b m' hj; omega)
 refine⟨fun b=>im b∨im' b,mrg ρ ρF,⟨?_,Uniq.layF h.uniq F 0 hab⟩,?_⟩
 ·
  have e:lget (layF σ.locs id 0 F)=mrgL (lget σ.locs) LF:=by
   funext i
   rw[qnB]
   show _=(match (if 0+id≤i∧i<0+id+F.length then (F[i - (0+id)]?).map (qdM id) else none) with | some x=>some x | none=>lget σ.locs i)
   split
   ·
    rename_i hc
    have hlt:i - (0+id)<F.length:=by omega
    rw[List.getElem?_eq_getElem hlt]; rfl
   ·
    rfl
  show St w0 bor im0 _ _ σ.slots σ.gs (lget (layF σ.locs id 0 F)) a w'
  rw[e]; exact h3
 ·
  have hab2:∀ i x,ρF i=some x→lget σ.locs i=none:=fun i x hi=>by
   obtain⟨g1,g2⟩:=hinv i x hi
   have hlt:i - id<F.length:=by
    rcases Nat.lt_or_ge (i - id) F.length with h4 | h4
    ·
     exact h4
    ·
     rw[hr.dom _ (List.getElem?_eq_none h4)] at g2; cases g2
   exact qdS F 0 hab i (by omega) (by omega)
  have:=(hr.rep.stable (im':=fun b=>im b∨im' b) (fun _ _=>rfl) (fun _ h=>.inr h) (fun _ _ h=>h) (fun _ _ _ _=>rfl)).ren (· + id) hsh
  exact this.stable (fun _ _=>rfl) (fun _ h=>h) (fun i x hi=>by unfold mrg; rw[hi]) (fun _ _ _ _=>rfl)
end
end Go.Eng
