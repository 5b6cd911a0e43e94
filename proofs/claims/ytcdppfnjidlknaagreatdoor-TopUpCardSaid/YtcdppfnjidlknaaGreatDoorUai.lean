import Derived.Test.YtcdppfnjidlknaaGreatDoorUah
namespace Go.Eng
open Go
set_option linter.unusedVariables false
set_option linter.unusedSimpArgs false
theorem qm7 {i:Nat}:∀ {l:List Nat},memN i l=true↔i∈l
 | []=>by simp[memN]
 | j::r=>by
  unfold memN
  have ih:=qm7 (i:=i) (l:=r)
  split
  ·
   rename_i h; have:=nbeq h; subst this; simp
  ·
   rename_i h; have:=qbz h
   rw[ih,List.mem_cons]
   exact⟨.inr,fun e=>e.resolve_left this⟩
def qbT (ks:List Nat) (ρ:Ids):Ids:=fun i=>if i∈ks then ρ i else none
theorem qcP {ρ:Ids} {ks:List Nat} {i:Nat} {x:Option Nat×Nat} (h:qbT ks ρ i=some x):ρ i=some x∧i∈ks:=by
 unfold qbT at h
 split at h
 ·
  rename_i hm; exact⟨h,hm⟩
 ·
  cases h
theorem qi1:∀ {l:List Nat},qc1 l=true→l.Nodup
 | [],_=>List.nodup_nil
 | i::r,h=>by
  simp only[qc1,Bool.and_eq_true,Bool.not_eq_true'] at h
  refine List.nodup_cons.2 ⟨fun hm=>?_,qi1 h.2⟩
  rw[qm7.2 hm] at h
  exact absurd h.1 (by simp)
theorem qaR {ks:List Nat}:∀ {l:List AV},qbB ks l=true→∀ j,qcL ks (nth l j)=true
 | [],_,j=>rfl
 | x::r,h,j=>by
  simp only[qbB,Bool.and_eq_true] at h
  cases j with
  | zero=>exact h.1
  | succ j=>exact qaR h.2 j
theorem qbn {w:World} {im:Nat→Prop} {ρ:Ids} {ks:List Nat} {v:Value} {x:AV} (h:Rep w im ρ v x) (hc:qcL ks x=true):Rep w im (qbT ks ρ) v x:=by
 have hρ:∀ {ρ:Ids} {i u},memN i ks=true→ρ i=some u→qbT ks ρ i=some u:=fun{ρ i u} hm hu=>by unfold qbT; rw[if_pos (qm7.1 hm)]; exact hu
 induction h with
 | int h=>exact .int h
 | bool=>exact .bool
 | str h=>exact .str h
 | nilptr=>exact .nilptr
 | nilsl=>exact .nilsl
 | nilfn=>exact .nilfn
 | sl0=>exact .sl0
 | emp=>exact .emp
 | sl hb hn hcap hm vals hcell hone hrep ih=>exact .sl hb hn hcap hm vals hcell hone hrep
 | iref hb ho vals hcell hone hrep ih=>exact .iref hb ho vals hcell hone hrep
 | row0 h=>exact .row0 (hρ hc h)
 | row h hle ho hn hm hs=>exact .row (hρ hc h) hle ho hn hm hs
 | rowE h ho hm=>exact .rowE (hρ hc h) ho hm
 | ptr h=>exact .ptr (hρ hc h)
 | eptr h ho=>exact .eptr (hρ hc h) ho
 | agg hl hone h ih=>exact .agg hl hone fun j v hj=>ih j v hj (qaR hc j)
 | tup hl h ih=>exact .tup hl fun j v hj=>ih j v hj (qaR hc j)
 | fn hl hl' h h' ih ih' =>
  simp only[qcL,Bool.and_eq_true] at hc
  exact .fn hl hl' (fun j v hj=>ih j v hj (qaR hc.1 j)) (fun j v hj=>ih' j v hj (qaR hc.2 j))
 | dead=>exact .dead
 | val=>exact .val
 | both h h'=>exact .both h h'
 | wsl hn hm h0 h=>exact .wsl hn hm h0 h
 | wref hb hn hx1 hc1 hf1=>exact .wref hb hn hx1 hc1 hf1
 | anyb h=>exact .anyb h
theorem q2a:∀ {l:List Nat} {i:Nat} (n:Nat),i∈l→∃ m,idx l i n=n+m∧l[m]? = some i
 | [],i,n,h=>by cases h
 | j::r,i,n,h=>by
  unfold idx
  split
  ·
   rename_i e; have:=nbeq e; subst this; exact⟨0,rfl,rfl⟩
  ·
   rename_i e
   rcases List.mem_cons.1 h with e' | e'
   ·
    exact absurd e' (qbz e)
   ·
    obtain⟨m,h1,h2⟩:=q2a (n+1) e'
    exact⟨m+1,by omega,by simpa using h2⟩
section
variable {w0 w : World} {bor : Bor} {im0 im : Nat → Prop} {ρ : Ids} {sl : List AV} {gs : List (Nat × Nat × Bool)} {L : Nat → Option Blk} {σ : AS} {a : Act}
theorem qfO (own:List Bool):∀ (B:List Blk) (j i:Nat),j+B.length≤900→lget (qca own j B) i =
  if i<900 then (if i<j∨nthB own i=true then none else B[i - j]?) else (if i - 900<j∨nthB own (i - 900)=false then none else B[i - 900 - j]?)
 | [],j,i,_=>by simp[qca,lget]
 | b::r,j,i,h=>by
  simp only[List.length_cons] at h
  have ih:=qfO own r (j+1) i (by omega)
  unfold qca
  simp only[lget]
  have hnm:nm own j=if nthB own j=true then 900+j else j:=by unfold nm; split <;> simp_all
  split
  ·
   rename_i e
   have e:=nbeq e
   rw[hnm] at e
   split at e
   ·
    rename_i ho
    subst e
    rw[if_neg (by omega),Nat.add_sub_cancel_left,if_neg (by simp[ho]),Nat.sub_self]; rfl
   ·
    rename_i ho
    subst e
    rw[if_pos (by omega),if_neg (by simp[ho]),Nat.sub_self]; rfl
  ·
   rename_i e
   have e:=qbz e
   rw[hnm] at e
   rw[ih]
   by_cases hi:i<900
   ·
    rw[if_pos hi,if_pos hi]
    by_cases ho:nthB own i=true
    ·
     rw[if_pos (.inr ho),if_pos (.inr ho)]
    ·
     have hne:i≠j:=by rintro rfl; rw[if_neg ho] at e; exact e rfl
     by_cases hlt:i<j
     ·
      rw[if_pos (.inl (by omega)),if_pos (.inl hlt)]
     ·
      rw[if_neg (by simp[ho]; omega),if_neg (by simp[ho]; omega),show i - j=(i - (j+1))+1 by omega,List.getElem?_cons_succ]
   ·
    rw[if_neg hi,if_neg hi]
    by_cases ho:nthB own (i - 900)=false
    ·
     rw[if_pos (.inr ho),if_pos (.inr ho)]
    ·
     have hne:i - 900≠j:=by
      rintro rfl
      rw[if_pos (by simpa using ho)] at e
      omega
     by_cases hlt:i - 900<j
     ·
      rw[if_pos (.inl (by omega)),if_pos (.inl hlt)]
     ·
      rw[if_neg (by simp[ho]; omega),if_neg (by simp[ho]; omega),show i - 900 - j=(i - 900 - (j+1))+1 by omega,List.getElem?_cons_succ]
theorem qrs (own:List Bool):∀ (B:List Blk) (j:Nat),j+B.length≤900→∀ i∈(qca own j B).map (·.1),∃ q,j≤q∧q<900∧i=nm own q
 | [],j,_,i,h=>by simp[qca] at h
 | b::r,j,hl,i,h=>by
  simp only[List.length_cons] at hl
  unfold qca at h
  simp only[List.map_cons,List.mem_cons] at h
  rcases h with h | h
  ·
   exact⟨j,Nat.le_refl _,by omega,h⟩
  ·
   obtain⟨q,h1,h2,h3⟩:=qrs own r (j+1) (by omega) i h
   exact⟨q,by omega,h2,h3⟩
theorem nm_inj {own:List Bool} {p q:Nat} (hp:p<900) (hq:q<900) (h:nm own p=nm own q):p=q:=by
 unfold nm at h
 split at h <;> split at h <;> omega
theorem qrt (own:List Bool):∀ (B:List Blk) (j:Nat),j+B.length≤900→Uniq (qca own j B)
 | [],j,_=>List.nodup_nil
 | b::r,j,hl=>by
  simp only[List.length_cons] at hl
  refine List.nodup_cons.2 ⟨fun hm=>?_,qrt own r (j+1) (by omega)⟩
  obtain⟨q,h1,h2,h3⟩:=qrs own r (j+1) (by omega) _ hm
  have:=nm_inj (own:=own) (by omega) h2 h3
  omega
theorem qnM {ρ ρ2:Ids} {ob:Option Nat×Nat} {b:Blk} (h:BRep w im ρ ob b) (f:Nat→Nat) (hf:∀ i x,ρ i=some x→ρ2 (f i)=some x):BRep w im ρ2 ob (qif f b):=by
 have:=h.ren f hf
 cases b <;> exact this
theorem qzE {w:World} {im:Nat→Prop} {ρ ρ2:Ids} {L:Locs} {l:List Nat} {f:Nat→Nat} {i:Nat} {b:Blk} (h:blkG L l f i=some b)
  (hb:∀ b,lget L i=some b→∃ ob,ρ i=some ob∧BRep w im ρ ob b) (hf:∀ i x,qbT l ρ i=some x→ρ2 (f i)=some x):∃ ob,ρ i=some ob∧BRep w im ρ2 ob b:=by
 unfold blkG at h
 split at h
 ·
  rename_i cs hl
  split at h
  ·
   rename_i hc
   simp only[Option.some.injEq] at h; subst h
   obtain⟨ob,h1,b,cur,e,q1,q2,q3,q4,q5⟩:=hb _ hl
   refine⟨ob,h1,?_⟩
   have:BRep w im (qbT l ρ) ob (.cells cs):=⟨b,cur,e,q1,q2,q3,q4,fun j v hj=>qbn (q5 j v hj) (qaR hc j)⟩
   exact qnM this f hf
  ·
   cases h
 ·
  rename_i c xs hl
  simp only[Option.some.injEq] at h; subst h
  obtain⟨ob,h1,h2⟩:=hb _ hl
  exact⟨ob,h1,h2⟩
 ·
  cases h
theorem qnN {L:Locs} {l:List Nat} {f:Nat→Nat}:∀ {m:List Nat} {F:List Blk},qtF L l f m=some F→F.length=m.length∧∀ (j:Nat) (b:Blk),F[j]? = some b→∃ i,m[j]? = some i∧blkG L l f i=some b
 | [],F,h=>by simp[qtF] at h; subst h; simp
 | i::r,F,h=>by
  unfold qtF at h
  split at h
  ·
   rename_i b bs h1 h2
   simp only[Option.some.injEq] at h; subst h
   obtain⟨h3,h4⟩:=qnN h2
   refine⟨by simp[h3],fun j b hj=>?_⟩
   cases j with
   | zero=>simp at hj; subst hj; exact⟨i,rfl,h1⟩
   | succ j=>exact h4 j b (by simpa using hj)
  ·
   cases h
theorem St.swap (h:St w0 bor im0 im ρ sl gs L a w) {w':World} {im2:Nat→Prop} {ρ2:Ids} {L2:Nat→Option Blk}
  (hρ:∀ i x,ρ i=some x→ρ2 i=some x) (him:∀ b,im b→w'.heap[b]? = w.heap[b]?) (hsub:∀ b,im b→im2 b)
  (hshape:∀ i b m,ρ i=some (some b,m)→w'.shape? b=w.shape? b) (hdom:∀ i,L2 i=none→ρ2 i=none)
  (hblk:∀ i b,L2 i=some b→∃ ob,ρ2 i=some ob∧BRep w' im2 ρ2 ob b)
  (hinj:∀ i j b m m',ρ2 i=some (some b,m)→ρ2 j=some (some b,m')→i=j) (hnot:∀ i b m,ρ2 i=some (some b,m)→¬ im2 b)
  (hlt:∀ b,im2 b→b<w'.heap.size) (hnew:∀ b,im2 b→im b∨w0.heap.size≤b∨bor.mem b) (hown:∀ i b m,ρ2 i=some (some b,m)→w0.heap.size≤b∨bor.mem b)
  (hpin:∀ i x,i<900→ρ2 i=some x→bor.pin i=some x) (hos:w'.os=w.os) (ht:w'.tape=w.tape) (ho:w'.output=w.output) (hsz:w.heap.size≤w'.heap.size)
  (hfr:∀ b,b<w0.heap.size→¬ bor.mem b→w'.heap[b]? = w.heap[b]?) (hsh:∀ b,bor.mem b→w'.shape? b=w.shape? b):St w0 bor im0 im2 ρ2 sl gs L2 a w' :=
 {defers:=h.defers
  len:=h.len
  slot:=fun i v hv=>by
   have hs:=h.slot i v hv
   unfold SRep at hs ⊢
   split
   ·
    rename_i hg; rw[hg] at hs; exact hs.stable him hsub hρ hshape
   ·
    rename_i tc wt hg
    rw[hg] at hs
    exact⟨fun e=>(hs.1 e).stable him hsub hρ hshape,hs.2⟩
  dom:=hdom
  blk:=hblk
  inj:=hinj
  notim:=hnot
  imlt:=hlt
  imold:=fun b hb=>hsub b (h.imold b hb)
  imnew:=fun b hb=>by
   rcases hnew b hb with h1 | h1
   ·
    exact h.imnew b h1
   ·
    exact .inr h1
  own:=hown
  pin:=hpin
  shp:=fun b hb=>(hsh b hb).trans (h.shp b hb)
  blt:=h.blt
  os:=hos.trans h.os
  tape:=ht.trans h.tape
  output:=ho.trans h.output
  size:=Nat.le_trans h.size hsz
  frame:=fun b hb hn=>(hfr b hb hn).trans (h.frame b hb hn)}
theorem SA.del (h:SA w0 bor im0 im ρ σ a w) (i:Nat):SA w0 bor im0 im (upd ρ i none) ⟨qb7 i σ.slots,σ.gs,lmap (qb7 i) (ldel σ.locs i)⟩ a w:=by
 refine⟨?_,(h.uniq.ldel i).lmap _⟩
 have e:lget (lmap (qb7 i) (ldel σ.locs i))=fun j=>if j=i then none else (lget σ.locs j).map (Blk.map (qb7 i)):=by
  funext j
  rw[qaZ,qc4 h.uniq]
  split <;> rfl
 show St _ _ _ _ _ _ _ (lget (lmap (qb7 i) (ldel σ.locs i))) _ _
 rw[e]
 exact h.st.del i
theorem SA.killD:∀ (l:List Nat) {ρ:Ids} {σ:AS},SA w0 bor im0 im ρ σ a w→∃ ρ1,SA w0 bor im0 im ρ1 (σ.killD l) a w∧(∀ i,ρ1 i=if i∈l then none else ρ i)∧(∀ i,i ∉ l→((lget (σ.killD l).locs i=none)↔(lget σ.locs i=none))) ∧
  (∀ dst,(σ.killD l).clash dst=σ.clash dst)
 | [],ρ,σ,h=>⟨ρ,h,by simp,fun _ _=>Iff.rfl,fun _=>rfl⟩
 | i::r,ρ,σ,h=>by
  obtain⟨ρ1,h1,h2,h3,h4⟩:=SA.killD r (h.del i)
  refine⟨ρ1,h1,fun j=>?_,fun j hj=>?_,fun dst=>(h4 dst).trans ?_⟩
  ·
   rw[h2]
   unfold upd
   by_cases e:j∈r
   ·
    simp[e]
   ·
    by_cases e2:j=i <;> simp[e,e2]
  ·
   simp only[List.mem_cons,not_or] at hj
   rw[show σ.killD (i::r)=AS.killD ⟨qb7 i σ.slots,σ.gs,lmap (qb7 i) (ldel σ.locs i)⟩ r from rfl,h3 j hj.2]
   show lget (lmap (qb7 i) (ldel σ.locs i)) j=none↔_
   rw[qaZ,qc4 h.uniq,if_neg hj.1,Option.map_eq_none_iff]
  ·
   cases dst <;> rfl
theorem qd1 {f:Nat→Nat}:∀ (l:List Nat) (bs:List (Option Blk)) (L:Locs),l.Nodup→(∀ (j i:Nat) (b:Blk),l[j]? = some i→bs[j]? = some (some b)→lget L i≠none) →
  (∀ (j i:Nat) (b:Blk),l[j]? = some i→bs[j]? = some (some b)→lget (setB f L l bs) i=some (qif f b))∧(∀ i,(∀ (j:Nat) (b:Blk),l[j]? = some i→bs[j]?≠some (some b))→lget (setB f L l bs) i=lget L i)∧(setB f L l bs).map (·.1)=L.map (·.1)
 | [],bs,L,_,_=>by
  have e:setB f L [] bs=L:=by cases bs <;> rfl
  rw[e]; simp
 | i::r,[],L,_,_=>by
  have e:setB f L (i::r) []=L:=rfl
  rw[e]; simp
 | i::r,none::bs,L,hn,hl=>by
  have e:setB f L (i::r) (none::bs)=setB f L r bs:=rfl
  rw[e]
  obtain⟨h1,h2,h3⟩:=qd1 r bs L (List.nodup_cons.1 hn).2 (fun j i b hj hb=>hl (j+1) i b (by simpa using hj) (by simpa using hb))
  refine⟨fun j i' b hj hb=>?_,fun i' hi=>h2 i' fun j b hj hb=>hi (j+1) b (by simpa using hj) (by simpa using hb),h3⟩
  cases j with
  | zero=>simp at hb
  | succ j=>exact h1 j i' b (by simpa using hj) (by simpa using hb)
 | i::r,some b0::bs,L,hn,hl=>by
  have e:setB f L (i::r) (some b0::bs)=setB f (lset L i (qif f b0)) r bs:=rfl
  rw[e]
  have hn:=List.nodup_cons.1 hn
  obtain⟨b1,hb1⟩:∃ b1,lget L i=some b1:=by
   have:=hl 0 i b0 rfl rfl
   cases h:lget L i with
   | none=>exact absurd h this
   | some b1=>exact⟨b1,rfl⟩
  obtain⟨h1,h2,h3⟩:=qd1 (f:=f) r bs (lset L i (qif f b0)) hn.2 (fun j i' b hj hb=>by
   rw[qc5 hb1]
   unfold upd
   split
   ·
    simp
   ·
    exact hl (j+1) i' b (by simpa using hj) (by simpa using hb))
  refine⟨fun j i' b hj hb=>?_,fun i' hi=>?_,h3.trans (qvZ _ _ _)⟩
  ·
   cases j with
   | zero =>
    simp only[List.getElem?_cons_zero,Option.some.injEq] at hj hb
    subst hj; subst hb
    rw[h2 i fun j b hj hb=>hn.1 (List.mem_of_getElem? hj),qc5 hb1]
    simp[upd]
   | succ j=>exact h1 j i' b (by simpa using hj) (by simpa using hb)
  ·
   rw[h2 i' fun j b hj hb=>hi (j+1) b (by simpa using hj) (by simpa using hb),qc5 hb1]
   unfold upd
   rw[if_neg]
   rintro rfl
   exact hi 0 b0 rfl rfl
theorem qi2 (L:Locs) (f:Nat→Nat) (s:Nat):∀ (F:List Blk) (j i:Nat),lget (layG L f s j F) i=if j+s≤i∧i<j+s+F.length then (F[i - (j+s)]?).map (qif f) else lget L i
 | [],j,i=>by simp[layG]; intros; omega
 | b::r,j,i=>by
  simp only[layG,lget]
  split
  ·
   rename_i h
   have:=nbeq h
   subst this
   rw[if_pos (by simp)]
   simp
  ·
   rename_i h
   have hne:=qbz h
   rw[qi2 L f s r (j+1) i]
   simp only[List.length_cons]
   by_cases h1:j+1+s≤i∧i<j+1+s+r.length
   ·
    rw[if_pos h1,if_pos (by omega)]
    have e:i - (j+s)=(i - (j+1+s))+1:=by omega
    rw[e,List.getElem?_cons_succ]
   ·
    rw[if_neg h1,if_neg (by omega)]
theorem Uniq.layG {L L0:Locs} {f:Nat→Nat} {s:Nat} (hL:Uniq L) (hk:L.map (·.1)=L0.map (·.1)):∀ (F:List Blk) (j:Nat),qaM L0 s j F=true→Uniq (Eng.layG L f s j F)
 | [],j,_=>hL
 | b::r,j,h=>by
  simp only[qaM,Bool.and_eq_true] at h
  refine Uniq.cons (Uniq.layG hL hk r (j+1) h.2) ?_ _
  rw[qi2,if_neg (by omega)]
  have:=qjZ (qaB h.1)
  rw[← hk] at this
  exact qn2 this
theorem q2b:∀ {l:List Nat} {n i:Nat},l[n]? = some i→nthN l n=i
 | [],n,i,h=>by simp at h
 | j::r,0,i,h=>by simpa [nthN] using h
 | j::r,n+1,i,h=>q2b (l:=r) (by simpa using h)
theorem qi3:∀ {l:List Nat} {bs:List (Option Blk)} {i:Nat},i∈qeZ l bs→∃ j:Nat,l[j]? = some i∧bs[j]? = some none
 | i'::r,none::bs,i,h=>by
  unfold qeZ at h
  rcases List.mem_cons.1 h with e | e
  ·
   subst e; exact⟨0,rfl,rfl⟩
  ·
   obtain⟨j,h1,h2⟩:=qi3 e
   exact⟨j+1,by simpa using h1,by simpa using h2⟩
 | i'::r,some b::bs,i,h=>by
  unfold qeZ at h
  obtain⟨j,h1,h2⟩:=qi3 h
  exact⟨j+1,by simpa using h1,by simpa using h2⟩
 | [],bs,i,h=>by cases bs <;> cases h
 | _::_,[],i,h=>by cases h
theorem qfm:∀ {l:List Nat} {bs:List (Option Blk)} {j i:Nat},l[j]? = some i→bs[j]? = some none→i∈qeZ l bs
 | i'::r,none::bs,0,i,h,_=>by
  simp only[List.getElem?_cons_zero,Option.some.injEq] at h
  subst h; exact List.mem_cons_self ..
 | i'::r,none::bs,j+1,i,h,hb=>List.mem_cons_of_mem _ (qfm (l:=r) (by simpa using h) (by simpa using hb))
 | i'::r,some b::bs,0,i,_,hb=>by simp at hb
 | i'::r,some b::bs,j+1,i,h,hb=>qfm (l:=r) (bs:=bs) (by simpa using h) (by simpa using hb)
 | [],bs,j,i,h,_=>by simp at h
 | _::_,[],j,i,_,hb=>by simp at hb
def LR (nB:Nat) (bs:List (Option Blk)) (F:List Blk) (i:Nat):Option Blk:=if i<nB then (bs[i]?).join else F[i - nB]?
structure Lent (w:World) (im:Nat→Prop) (ρ0:Ids) (L0:Locs):Prop where
 dom:∀ i,lget L0 i=none→ρ0 i=none
 blk:∀ i b,lget L0 i=some b→∃ ob,ρ0 i=some ob∧BRep w im ρ0 ob b
 inj:∀ i j b m m',ρ0 i=some (some b,m)→ρ0 j=some (some b,m')→i=j
 notim:∀ i b m,ρ0 i=some (some b,m)→¬ im b
structure ResB (w w':World) (im im':Nat→Prop) (ρ0 ρ':Ids) (v:Value) (r:AV) (nB:Nat) (bs:List (Option Blk)) (F:List Blk):Prop where
 size:w.heap.size≤w'.heap.size
 os:w'.os=w.os
 tape:w'.tape=w.tape
 output:w'.output=w.output
 frame:∀ b,b<w.heap.size→(∀ i m,ρ0 i≠some (some b,m))→w'.heap[b]? = w.heap[b]?
 shp:∀ b,b<w.heap.size→w'.shape? b=w.shape? b
 imold:∀ b,im b→im' b
 imlt:∀ b,im' b→b<w'.heap.size
 imnew:∀ b,im' b→im b∨w.heap.size≤b∨∃ i m,ρ0 i=some (some b,m)
 len:bs.length=nB
 dom:∀ i,LR nB bs F i=none→ρ' i=none
 blk:∀ i b,LR nB bs F i=some b→∃ ob,ρ' i=some ob∧BRep w' im' ρ' ob b
 pin:∀ i x,i<nB→ρ' i=some x→ρ0 i=some x
 inj:∀ i j b m m',ρ' i=some (some b,m)→ρ' j=some (some b,m')→i=j
 notim:∀ i b m,ρ' i=some (some b,m)→¬ im' b
 fresh:∀ i b m,ρ' i=some (some b,m)→w.heap.size≤b∨∃ j m',ρ0 j=some (some b,m')
 rep:Rep w' im' ρ' v r
def qkf (own:List Bool) (l:List Nat) (ρ:Ids):Ids:=fun i =>
 if i<900 then (if nthB own i=true then none else (l[i]?).bind ρ) else (if nthB own (i - 900)=true then (l[i - 900]?).bind ρ else none)
theorem q2c {own:List Bool} {l:List Nat} {j i:Nat} {x:Option Nat×Nat} (hj:j<900) (hl:l[j]? = some i) (hx:ρ i=some x):qkf own l ρ (nm own j)=some x:=by
 unfold qkf nm
 split
 ·
  rename_i ho
  rw[if_neg (by omega),Nat.add_sub_cancel_left,if_pos ho,hl]; exact hx
 ·
  rename_i ho
  rw[if_pos hj,if_neg (by simp[ho]),hl]; exact hx
theorem qd2 {own:List Bool} {l:List Nat} {i:Nat} {x:Option Nat×Nat} (h:qkf own l ρ i=some x):∃ j i':Nat,l[j]? = some i'∧ρ i'=some x∧i=nm own j∧(i<900→i=j):=by
 unfold qkf at h
 split at h
 ·
  rename_i hi
  split at h
  ·
   cases h
  ·
   rename_i ho
   cases hl:l[i]? with
   | none=>rw[hl] at h; cases h
   | some i'=>rw[hl] at h; exact⟨i,i',hl,h,by unfold nm; simp[ho],fun _=>rfl⟩
 ·
  rename_i hi
  split at h
  ·
   rename_i ho
   cases hl:l[i - 900]? with
   | none=>rw[hl] at h; cases h
   | some i'=>rw[hl] at h; exact⟨i - 900,i',hl,h,by unfold nm; simp[ho]; omega,fun e=>absurd e hi⟩
  ·
   cases h
theorem SA.lent (h:SA w0 bor im0 im ρ σ a w) {own:List Bool} {l:List Nat} {B:List Blk} (hnd:l.Nodup) (hlen:l.length≤100)
  (hB:qtF σ.locs l (fun i=>nm own (idx l i 0)) l=some B) :
  Lent w im (qkf own l ρ) (qca own 0 B)∧B.length=l.length∧∀ i x,qbT l ρ i=some x→qkf own l ρ (nm own (idx l i 0))=some x:=by
 obtain⟨hBl,hBg⟩:=qnN hB
 have hf:∀ i x,qbT l ρ i=some x→qkf own l ρ (nm own (idx l i 0))=some x:=fun i x hx=>by
  obtain⟨h1,h2⟩:=qcP hx
  obtain⟨m,h3,h4⟩:=q2a 0 h2
  rw[h3,Nat.zero_add]
  have:=(List.getElem?_eq_some_iff.1 h4).1
  exact q2c (by omega) h4 h1
 refine⟨⟨fun i hi=>?_,fun i b hi=>?_,fun i j b m m' hi hj=>?_,fun i b m hi=>?_⟩,hBl,hf⟩
 ·
  cases hx:qkf own l ρ i with
  | none=>rfl
  | some x =>
   exfalso
   obtain⟨j,i',h1,h2,h3,-⟩:=qd2 hx
   have hj:=(List.getElem?_eq_some_iff.1 h1).1
   rw[qfO _ _ _ _ (by omega)] at hi
   have hBj:B[j]?≠none:=by
    intro e
    rw[List.getElem?_eq_none_iff] at e
    omega
   subst h3
   unfold nm at hi
   split at hi
   ·
    rename_i ho
    rw[if_neg (by omega),Nat.add_sub_cancel_left,if_neg (by simp[ho])] at hi
    exact hBj hi
   ·
    rename_i ho
    rw[if_pos (by omega),if_neg (by simp[ho])] at hi
    exact hBj hi
 ·
  rw[qfO _ _ _ _ (by omega)] at hi
  have key:∀ j,B[j]? = some b→∃ ob,qkf own l ρ (nm own j)=some ob∧BRep w im (qkf own l ρ) ob b:=fun j hj=>by
   obtain⟨i',g1,g2⟩:=hBg j b hj
   obtain⟨ob,g3,g4⟩:=qzE (ρ2:=qkf own l ρ) g2 (fun b hb=>h.st.blk i' b hb) hf
   have:=(List.getElem?_eq_some_iff.1 g1).1
   exact⟨ob,q2c (by omega) g1 g3,g4⟩
  split at hi
  ·
   split at hi
   ·
    cases hi
   ·
    rename_i ho
    simp only[Nat.not_lt_zero,false_or] at ho
    have:=key i (by simpa using hi)
    unfold nm at this
    simp only[ho] at this
    exact this
  ·
   rename_i h9
   split at hi
   ·
    cases hi
   ·
    rename_i ho
    simp only[Nat.not_lt_zero,false_or,Bool.not_eq_false] at ho
    have:=key (i - 900) (by simpa using hi)
    unfold nm at this
    simp only[ho] at this
    rw[show 900+(i - 900)=i by omega] at this
    exact this
 ·
  obtain⟨p,i',g1,g2,g3,-⟩:=qd2 hi
  obtain⟨q,j',g4,g5,g6,-⟩:=qd2 hj
  have:=h.st.inj _ _ _ _ _ g2 g5
  subst this
  have:=(List.getElem?_inj (List.getElem?_eq_some_iff.1 g1).1 hnd).1 (g1.trans g4.symm)
  subst this
  rw[g3,g6]
 ·
  obtain⟨p,i',g1,g2,-,-⟩:=qd2 hi
  exact h.st.notim _ _ _ g2
theorem SA.calledB (h:SA w0 bor im0 im ρ σ a w) {own:List Bool} {l:List Nat} (hnd:l.Nodup) (hlen:l.length≤100) (hin:∀ (j i:Nat),l[j]? = some i→lget σ.locs i≠none)
  {w':World} {im':Nat→Prop} {ρ':Ids} {v:Value} {r:AV} {bs:List (Option Blk)} {F:List Blk}
  (hr:ResB w w' im im' (qkf own l ρ) ρ' v r l.length bs F) {id:Nat} (hab:qaM (σ.killD (qeZ l bs)).locs id 0 F=true) :
  ∃ im2 ρ2,SA w0 bor im0 im2 ρ2 ⟨(σ.killD (qeZ l bs)).slots,(σ.killD (qeZ l bs)).gs,layG (setB (hnum l l.length id) (σ.killD (qeZ l bs)).locs l bs) (hnum l l.length id) id 0 F⟩ a w'∧Rep w' im2 ρ2 v (ren (hnum l l.length id) r):=by
 obtain⟨ρ1,h1,hρ1,hk1,-⟩:=SA.killD (qeZ l bs) h
 generalize hσ1:σ.killD (qeZ l bs)=σ1 at *
 have hle1:∀ i x,ρ1 i=some x→ρ i=some x∧i ∉ qeZ l bs:=fun i x hx=>by
  rw[hρ1] at hx
  split at hx
  ·
   cases hx
  ·
   exact⟨hx,‹_›⟩
 have hlb:∀ {i b m},qkf own l ρ i=some (some b,m)→∃ q i',l[q]? = some i'∧ρ i'=some (some b,m):=fun hx=>by
  obtain⟨q,i',g1,g2,-,-⟩:=qd2 hx
  exact⟨q,i',g1,g2⟩
 have hin1:∀ j i b,l[j]? = some i→bs[j]? = some (some b)→lget σ1.locs i≠none:=fun j i b hj hb=>by
  rw[Ne,hk1 i (fun hm=>?_)]
  ·
   exact hin j i hj
  ·
   obtain⟨q,g1,g2⟩:=qi3 hm
   have:=(List.getElem?_inj (List.getElem?_eq_some_iff.1 hj).1 hnd).1 (hj.trans g1.symm)
   subst this
   rw[hb] at g2; cases g2
 have hpin:∀ n x,n<l.length→ρ' n=some x→∃ i b,l[n]? = some i∧ρ1 i=some x∧bs[n]? = some (some b):=fun n x hn hx=>by
  have h0:=hr.pin n x hn hx
  obtain⟨q,i',g1,g2,g3,g4⟩:=qd2 h0
  have hq:=g4 (by omega)
  subst hq
  have hLR:LR l.length bs F n≠none:=fun e=>by rw[hr.dom n e] at hx; cases hx
  unfold LR at hLR
  rw[if_pos hn] at hLR
  cases hb:bs[n]? with
  | none=>rw[hb] at hLR; exact absurd rfl hLR
  | some ob=>cases ob with
   | none=>rw[hb] at hLR; exact absurd rfl hLR
   | some b =>
    refine⟨i',b,g1,?_,rfl⟩
    rw[hρ1,if_neg]
    ·
     exact g2
    ·
     intro hm
     obtain⟨q,g5,g6⟩:=qi3 hm
     have:=(List.getElem?_inj (List.getElem?_eq_some_iff.1 g1).1 hnd).1 (g1.trans g5.symm)
     subst this
     rw[hb] at g6; cases g6
 let ρF:Ids:=fun i=>if id≤i∧i<id+F.length then ρ' (l.length+(i - id)) else none
 have hF:∀ i x,ρF i=some x→(id≤i∧i<id+F.length)∧ρ' (l.length+(i - id))=some x:=fun i x hx=>by
  have hx:(if id≤i∧i<id+F.length then ρ' (l.length+(i - id)) else none)=some x:=hx
  split at hx
  ·
   exact⟨‹_›,hx⟩
  ·
   cases hx
 have hFabs:∀ i,id≤i→i<id+F.length→lget σ1.locs i=none∧900≤i:=fun i g1 g2 =>
  ⟨qdS F 0 hab i (by omega) (by omega),qka F 0 hab i (by omega) (by omega)⟩
 let ρ2:Ids:=mrg ρ1 ρF
 have hρ2:∀ i x,ρ1 i=some x→ρ2 i=some x:=fun i x hx=>by
  show mrg ρ1 ρF i=some x
  unfold mrg
  cases hf:ρF i with
  | none=>exact hx
  | some y =>
   obtain⟨⟨g1,g2⟩,-⟩:=hF i y hf
   have:=h1.st.dom i (hFabs i g1 g2).1
   rw[this] at hx; cases hx
 have hρ2F:∀ i x,ρF i=some x→ρ2 i=some x:=fun i x hx=>by
  show mrg ρ1 ρF i=some x
  unfold mrg; rw[hx]
 have hρ2inv:∀ i x,ρ2 i=some x→ρF i=some x∨ρ1 i=some x:=fun i x hx=>by
  have hx:mrg ρ1 ρF i=some x:=hx
  unfold mrg at hx
  split at hx
  ·
   rename_i y hy; exact .inl (hy.trans hx)
  ·
   exact .inr hx
 have hnF:∀ n x,l.length≤n→ρ' n=some x→n - l.length<F.length:=fun n x hn hx=>by
  rcases Nat.lt_or_ge (n - l.length) F.length with g | g
  ·
   exact g
  ·
   have:LR l.length bs F n=none:=by
    unfold LR
    rw[if_neg (by omega),List.getElem?_eq_none g]
   rw[hr.dom n this] at hx; cases hx
 have hnum_ok:∀ n x,ρ' n=some x→ρ2 (hnum l l.length id n)=some x:=fun n x hx=>by
  unfold hnum
  split
  ·
   rename_i hlt
   have hlt:n<l.length:=by simpa [Nat.blt,Nat.succ_le_iff] using hlt
   obtain⟨i,b,g1,g2,-⟩:=hpin n x hlt hx
   rw[q2b g1]
   exact hρ2 _ _ g2
  ·
   rename_i hlt
   have hge:l.length≤n:=by
    rcases Nat.lt_or_ge n l.length with g | g
    ·
     have:Nat.blt n l.length=true:=by simpa [Nat.blt,Nat.succ_le_iff] using g
     rw[this] at hlt; cases hlt
    ·
     exact g
   have g:=hnF n x hge hx
   refine hρ2F _ _ ?_
   show (if id≤id+(n - l.length)∧id+(n - l.length)<id+F.length then ρ' (l.length+(id+(n - l.length) - id)) else none)=some x
   rw[if_pos (by omega),show l.length+(id+(n - l.length) - id)=n by omega]
   exact hx
 have hFb:∀ i b m,ρF i=some (some b,m)→(w.heap.size≤b∨∃ q i',l[q]? = some i'∧∃ m',ρ i'=some (some b,m')):=fun i b m hx=>by
  obtain⟨-,g⟩:=hF i _ hx
  rcases hr.fresh _ b m g with g | ⟨j,m',g⟩
  ·
   exact .inl g
  ·
   obtain⟨q,i',g1,g2⟩:=hlb g
   exact .inr ⟨q,i',g1,m',g2⟩
 have hFne:∀ i j b m m',ρF i=some (some b,m)→ρ1 j=some (some b,m')→False:=fun i j b m m' hi hj=>by
  obtain⟨hj',hjd⟩:=hle1 j _ hj
  obtain⟨-,g⟩:=hF i _ hi
  rcases hFb i b m hi with g1 | ⟨q,i',g1,m1,g2⟩
  ·
   have:=h.st.rholt hj'; omega
  ·
   have:=h.st.inj _ _ _ _ _ hj' g2
   subst this
   have hq:=(List.getElem?_eq_some_iff.1 g1).1
   cases hb:bs[q]? with
   | none =>
    rw[List.getElem?_eq_none_iff,hr.len] at hb
    omega
   | some ob=>cases ob with
    | none=>exact hjd (qfm g1 hb)
    | some b2 =>
     obtain⟨ob,g3,-⟩:=hr.blk q b2 (by unfold LR; rw[if_pos hq,hb]; rfl)
     obtain⟨i2,b3,g4,g5,-⟩:=hpin q ob hq g3
     rw[g1] at g4
     simp only[Option.some.injEq] at g4
     subst g4
     rw[hj] at g5
     simp only[Option.some.injEq] at g5
     subst g5
     have:=hr.inj _ _ _ _ _ g g3
     omega
 have himb:∀ b,im b→w'.heap[b]? = w.heap[b]?:=fun b hb=>hr.frame b (h.st.imlt b hb) fun i m hx=>by
  obtain⟨q,i',-,g2⟩:=hlb hx
  exact h.st.notim _ _ _ g2 hb
 have hρ1lt:∀ i b m,ρ1 i=some (some b,m)→b<w.heap.size:=fun i b m hx=>h1.st.rholt hx
 have hst:=h1.st.swap (w':=w') (im2:=fun b=>im b∨im' b) (ρ2:=ρ2) (L2:=lget (layG (setB (hnum l l.length id) σ1.locs l bs) (hnum l l.length id) id 0 F)) hρ2 himb (fun _ h=>.inl h)
  (fun i b m hx=>hr.shp b (hρ1lt i b m hx))
  (fun i hi=>by
   rw[qi2] at hi
   cases hx:ρ2 i with
   | none=>rfl
   | some x =>
    exfalso
    split at hi
    ·
     rename_i hc
     rw[List.getElem?_eq_getElem (show i - (0+id)<F.length by omega)] at hi
     cases hi
    ·
     rename_i hc
     rcases hρ2inv i x hx with g | g
     ·
      have:=(hF i x g).1; omega
     ·
      have g1:lget σ1.locs i≠none:=fun e=>by rw[h1.st.dom i e] at g; cases g
      obtain⟨s1,s2,s3⟩:=qd1 (f:=hnum l l.length id) l bs σ1.locs hnd hin1
      rcases Classical.em (∃ (j:Nat) (b:Blk),l[j]? = some i∧bs[j]? = some (some b)) with ⟨j,b,e1,e2⟩ | e
      ·
       rw[s1 j i b e1 e2] at hi; cases hi
      ·
       rw[s2 i fun(j:Nat) (b:Blk) e1 e2=>e ⟨j,b,e1,e2⟩] at hi; exact g1 hi)
  (fun i b hi=>by
   rw[qi2] at hi
   split at hi
   ·
    rename_i hc
    cases hFi:F[i - (0+id)]? with
    | none=>rw[hFi] at hi; cases hi
    | some b0 =>
     rw[hFi] at hi
     simp only[Option.map_some,Option.some.injEq] at hi
     subst hi
     obtain⟨ob,g1,g2⟩:=hr.blk (l.length+(i - id)) b0 (by
      unfold LR
      rw[if_neg (by omega),Nat.add_sub_cancel_left]
      rw[Nat.zero_add] at hFi; exact hFi)
     refine⟨ob,hρ2F i ob ?_,?_⟩
     ·
      show (if id≤i∧i<id+F.length then ρ' (l.length+(i - id)) else none)=some ob
      rw[if_pos (by omega)]; exact g1
     ·
      exact qnM (g2.stable (im':=fun b=>im b∨im' b) (fun _ _=>rfl) (fun _ h=>.inr h) (fun _ _ h=>h) (fun _ _ _ _=>rfl) (fun _ _=>rfl)) _ hnum_ok
   ·
    obtain⟨s1,s2,s3⟩:=qd1 (f:=hnum l l.length id) l bs σ1.locs hnd hin1
    rcases Classical.em (∃ (j:Nat) (b:Blk),l[j]? = some i∧bs[j]? = some (some b)) with ⟨j,b0,e1,e2⟩ | e
    ·
     rw[s1 j i b0 e1 e2] at hi
     simp only[Option.some.injEq] at hi
     subst hi
     have hj:=(List.getElem?_eq_some_iff.1 e1).1
     obtain⟨ob,g1,g2⟩:=hr.blk j b0 (by unfold LR; rw[if_pos hj,e2]; rfl)
     obtain⟨i2,b3,g4,g5,-⟩:=hpin j ob hj g1
     rw[e1] at g4
     simp only[Option.some.injEq] at g4
     subst g4
     exact⟨ob,hρ2 _ _ g5,qnM (g2.stable (im':=fun b=>im b∨im' b) (fun _ _=>rfl) (fun _ h=>.inr h) (fun _ _ h=>h) (fun _ _ _ _=>rfl) (fun _ _=>rfl)) _ hnum_ok⟩
    ·
     rw[s2 i fun(j:Nat) (b:Blk) e1 e2=>e ⟨j,b,e1,e2⟩] at hi
     obtain⟨ob,g1,g2⟩:=h1.st.blk i b hi
     refine⟨ob,hρ2 _ _ g1,g2.stable himb (fun _ h=>.inl h) hρ2 (fun i b m hx=>hr.shp b (hρ1lt i b m hx)) fun x hx=>?_⟩
     refine hr.frame x (g2.lt hx) fun i' m hx'=>?_
     obtain⟨q,i2,e1,e2⟩:=hlb hx'
     obtain⟨o1,o2⟩:=ob
     dsimp only at hx
     subst hx
     obtain⟨g1',g1d⟩:=hle1 i _ g1
     have:=h.st.inj _ _ _ _ _ g1' e2
     subst this
     have hq:=(List.getElem?_eq_some_iff.1 e1).1
     cases hb:bs[q]? with
     | none=>rw[List.getElem?_eq_none_iff,hr.len] at hb; omega
     | some ob=>cases ob with
      | none=>exact g1d (qfm e1 hb)
      | some b2=>exact e ⟨q,b2,e1,hb⟩)
  (fun i j b m m' hi hj=>by
   rcases hρ2inv i _ hi with g | g <;> rcases hρ2inv j _ hj with g' | g'
   ·
    obtain⟨⟨e1,e2⟩,e3⟩:=hF i _ g
    obtain⟨⟨e4,e5⟩,e6⟩:=hF j _ g'
    have:=hr.inj _ _ _ _ _ e3 e6
    omega
   ·
    exact(hFne _ _ _ _ _ g g').elim
   ·
    exact(hFne _ _ _ _ _ g' g).elim
   ·
    exact h1.st.inj _ _ _ _ _ g g')
  (fun i b m hi hb=>by
   rcases hρ2inv i _ hi with g | g
   ·
    rcases hb with hb | hb
    ·
     rcases hFb i b m g with g1 | ⟨q,i',g1,m1,g2⟩
     ·
      have:=h.st.imlt b hb; omega
     ·
      exact h.st.notim _ _ _ g2 hb
    ·
     exact hr.notim _ _ _ (hF i _ g).2 hb
   ·
    rcases hb with hb | hb
    ·
     exact h1.st.notim _ _ _ g hb
    ·
     have hlt:=hρ1lt i b m g
     rcases hr.imnew b hb with g1 | g1 | ⟨j,m',g1⟩
     ·
      exact h1.st.notim _ _ _ g g1
     ·
      omega
     ·
      obtain⟨q,i',e1,e2⟩:=hlb g1
      obtain⟨g',gd⟩:=hle1 i _ g
      have:=h.st.inj _ _ _ _ _ g' e2
      subst this
      have hq:=(List.getElem?_eq_some_iff.1 e1).1
      cases hbq:bs[q]? with
      | none=>rw[List.getElem?_eq_none_iff,hr.len] at hbq; omega
      | some ob=>cases ob with
       | none=>exact gd (qfm e1 hbq)
       | some b2 =>
        obtain⟨ob,g3,-⟩:=hr.blk q b2 (by unfold LR; rw[if_pos hq,hbq]; rfl)
        obtain⟨i2,b3,g4,g5,-⟩:=hpin q ob hq g3
        rw[e1] at g4
        simp only[Option.some.injEq] at g4
        subst g4
        rw[g] at g5
        simp only[Option.some.injEq] at g5
        subst g5
        exact hr.notim _ _ _ g3 hb)
  (fun b hb=>by
   rcases hb with hb | hb
   ·
    exact Nat.lt_of_lt_of_le (h.st.imlt b hb) hr.size
   ·
    exact hr.imlt b hb)
  (fun b hb=>by
   rcases hb with hb | hb
   ·
    exact .inl hb
   ·
    rcases hr.imnew b hb with g1 | g1 | ⟨j,m',g1⟩
    ·
     exact .inl g1
    ·
     exact .inr (.inl (Nat.le_trans h.st.size g1))
    ·
     obtain⟨q,i',e1,e2⟩:=hlb g1
     exact .inr (h.st.own _ _ _ e2))
  (fun i b m hi=>by
   rcases hρ2inv i _ hi with g | g
   ·
    rcases hFb i b m g with g1 | ⟨q,i',g1,m1,g2⟩
    ·
     exact .inl (Nat.le_trans h.st.size g1)
    ·
     exact h.st.own _ _ _ g2
   ·
    exact h1.st.own _ _ _ g)
  (fun i x hlt hi=>by
   rcases hρ2inv i _ hi with g | g
   ·
    obtain⟨⟨e1,e2⟩,-⟩:=hF i _ g
    have:=(hFabs i e1 e2).2
    omega
   ·
    exact h1.st.pin i x hlt g)
  hr.os hr.tape hr.output hr.size
  (fun b hb hn=>hr.frame b (Nat.lt_of_lt_of_le hb h.st.size) fun i m hx=>by
   obtain⟨q,i',e1,e2⟩:=hlb hx
   rcases h.st.own _ _ _ e2 with g | g
   ·
    omega
   ·
    exact hn g)
  (fun b hb=>hr.shp b (Nat.lt_of_lt_of_le (h.st.blt b hb) h.st.size))
 refine⟨_,ρ2,⟨hst,?_⟩,?_⟩
 ·
  exact Uniq.layG (by unfold Uniq; rw[(qd1 (f:=hnum l l.length id) l bs σ1.locs hnd hin1).2.2]; exact h1.uniq) (qd1 (f:=hnum l l.length id) l bs σ1.locs hnd hin1).2.2 F 0 hab
 ·
  exact(hr.rep.stable (im':=fun b=>im b∨im' b) (fun _ _=>rfl) (fun _ h=>.inr h) (fun _ _ h=>h) (fun _ _ _ _=>rfl)).ren _ hnum_ok
end
theorem qkg:∀ {L:Locs} {k:Locs→Prop},qdN L k→k L
 | [],k,h=>h
 | (i,.cells cs)::r,k,h=>by
  unfold qdN at h
  have h1:=qar (k:=fun i=>qrg cs fun cs=>qdN r fun r=>k ((i,.cells cs)::r)) h
  have h2:=qn3 (k:=fun cs=>qdN r fun r=>k ((i,.cells cs)::r)) h1
  exact qkg (k:=fun r=>k ((i,.cells cs)::r)) h2
 | (i,.row c xs)::r,k,h=>by
  unfold qdN at h
  have h1:=qar (k:=fun i=>qdN r fun r=>k ((i,.row c xs)::r)) h
  exact qkg (k:=fun r=>k ((i,.row c xs)::r)) h1
theorem bindK_ok {lit:Bool} {L:Locs} {k:Locs→Prop} (h:bindK lit L k):k L:=by
 cases lit with
 | true=>exact qkg h
 | false=>exact h
def HA (w:World) (P:Program) (f:FuncId) (s:Spec):Prop :=
 ∀ (im:Nat→Prop) (vals:Array Value) (args:List AV) (k:AV→List (Option Blk)→List Blk→Prop) (o:Oper) (a:Act) (next:Act→World→Prop) (Q:Exit→Act→World→Prop),
  (∀ b,im b→b<w.heap.size)→Kc w im→vals.size=args.length→(∀ (j:Nat) (v:Value),vals[j]? = some v→Rep w im qai v (nth args j))→s.run args [] k →
  (∀ v w' im' ρ' r F,k r [] F→Res s.ro w w' im im' ρ' v r F→next (a.put o.dst v) w') →
  Oper.upon P o a next Q ((callFunc f vals).run P w)
def qc9 (P:Program) (f:FuncId) (s:Spec):Prop:=∀ (w:World),HA w P f s
def HB (w:World) (P:Program) (f:FuncId) (s:Spec):Prop :=
 ∀ (im:Nat→Prop) (ρ0:Ids) (vals:Array Value) (args:List AV) (B:List Blk) (k:AV→List (Option Blk)→List Blk→Prop) (o:Oper) (a:Act) (next:Act→World→Prop) (Q:Exit→Act→World→Prop),
  (∀ b,im b→b<w.heap.size)→Kc w im→B.length≤100→Lent w im ρ0 (qca s.own 0 B)→vals.size=args.length→(∀ (j:Nat) (v:Value),vals[j]? = some v→Rep w im ρ0 v (nth args j))→s.run args B k →
  (∀ v w' im' ρ' r bs F,k r bs F→ResB w w' im im' ρ0 ρ' v r B.length bs F→next (a.put o.dst v) w') →
  Oper.upon P o a next Q ((callFunc f vals).run P w)
def ql4 (P:Program) (f:FuncId) (s:Spec):Prop:=∀ (w:World),HB w P f s
def qaW (P:Program) (f:FuncId) (s:Spec):Prop:=match s.own with
 | []=>qc9 P f s
 | _::_=>ql4 P f s
theorem qaW.a {P:Program} {f:FuncId} {s:Spec} (h:qaW P f s) (hs:s.own=[]):qc9 P f s:=by
 unfold qaW at h; rw[hs] at h; exact h
theorem qc9.h {P:Program} {f:FuncId} {s:Spec} (h:qc9 P f s) (hs:s.own=[]):qaW P f s:=by
 unfold qaW; rw[hs]; exact h
theorem qaW.b {P:Program} {f:FuncId} {s:Spec} (h:qaW P f s) {o:Bool} {os:List Bool} (hs:s.own=o::os):ql4 P f s:=by
 unfold qaW at h; rw[hs] at h; exact h
theorem ql4.h {P:Program} {f:FuncId} {s:Spec} (h:ql4 P f s) (hs:s.own≠[]):qaW P f s:=by
 unfold qaW
 split
 ·
  exact absurd ‹_› hs
 ·
  exact h
def qb2 (n:Nat) (P:Program) (f:FuncId) (s:Spec):Prop:=match s.own with
 | []=>∀ w:World,n≤w.heap.size→HA w P f s
 | _::_=>∀ w:World,n≤w.heap.size→HB w P f s
theorem qaW.n {P:Program} {f:FuncId} {s:Spec} (h:qaW P f s) (n:Nat):qb2 n P f s:=by
 unfold qb2
 split
 ·
  exact fun w _=>h.a ‹_› w
 ·
  exact fun w _=>h.b ‹_› w
theorem qb2.mono {P:Program} {f:FuncId} {s:Spec} {m n:Nat} (h:qb2 m P f s) (hmn:m≤n):qb2 n P f s:=by
 unfold qb2 at h ⊢
 split at h
 ·
  exact fun w hw=>h w (Nat.le_trans hmn hw)
 ·
  exact fun w hw=>h w (Nat.le_trans hmn hw)
theorem qb2.a {P:Program} {f:FuncId} {s:Spec} {n:Nat} (h:qb2 n P f s) (hs:s.own=[]) (w:World) (hw:n≤w.heap.size):HA w P f s:=by
 unfold qb2 at h; rw[hs] at h; exact h w hw
theorem qb2.b {P:Program} {f:FuncId} {s:Spec} {n:Nat} (h:qb2 n P f s) {o:Bool} {os:List Bool} (hs:s.own=o::os) (w:World) (hw:n≤w.heap.size):HB w P f s:=by
 unfold qb2 at h; rw[hs] at h; exact h w hw
theorem qb2.of {P:Program} {f:FuncId} {s:Spec} {n:Nat} (hs:s.own=[]) (h:∀ w:World,n≤w.heap.size→HA w P f s):qb2 n P f s:=by
 unfold qb2; rw[hs]; exact h
structure Gam (P:Program) (sp:FuncId→Option Spec) (yw:Nat×Option Nat) (w0:World) (bor:Bor) (im0:Nat→Prop):Prop where
 h:∀ f s,sp f=some s→qb2 w0.heap.size P f s
 k:Kc w0 im0
 b:∀ b,im0 b→b<w0.heap.size∧¬ bor.mem b
 yg:yw.1≤w0.heap.size∧∀ b,bor.mem b→yw.1≤b
 wd:∀ n,yw.2=some n→w0.heap.size≤n
theorem Gam.at {P:Program} {sp:FuncId→Option Spec} {yw:Nat×Option Nat} {w0:World} {bor:Bor} {im0 im:Nat→Prop} {ρ:Ids} {σ:AS} {a:Act} {w:World} (g:Gam P sp yw w0 bor im0) (h:SA w0 bor im0 im ρ σ a w):Kc w im :=
 Kc.mono h.st.imold (fun b hb=>h.st.frame b (g.b b hb).1 (g.b b hb).2) g.k
theorem Gam.atH {P:Program} {sp:FuncId→Option Spec} {yw:Nat×Option Nat} {w0:World} {bor:Bor} {im0 im:Nat→Prop} {ρ:Ids} {σ:AS} {a:Act} {w:World} (g:Gam P sp yw w0 bor im0) (h:SA w0 bor im0 im ρ σ a w):Kc w (fun b=>b<w.heap.size) :=
 Kc.mono (fun b hb=>h.st.imlt b hb) (fun _ _=>rfl) (g.at h)
end Go.Eng
namespace Go.Eng
open Go
set_option linter.unusedVariables false
set_option linter.unusedSimpArgs false
theorem q5B {l:List DP} (h:conjD l):AllD l:=by
 induction l with
 | nil=>trivial
 | cons p r ih =>
  obtain⟨p,d⟩:=p
  cases r with
  | nil=>exact⟨h,trivial⟩
  | cons q r=>exact⟨h.1,ih h.2⟩
theorem all_conj {l:List Prop} (h:conj l):All l:=by
 induction l with
 | nil=>trivial
 | cons p r ih =>
  cases r with
  | nil=>exact⟨h,trivial⟩
  | cons q r=>exact⟨h.1,ih h.2⟩
theorem conj_all {l:List Prop} (h:All l):conj l:=by
 induction l with
 | nil=>trivial
 | cons p r ih =>
  cases r with
  | nil=>exact h.1
  | cons q r=>exact⟨h.1,ih h.2⟩
theorem qwi {g:List Prop} {pre:List DP} {q:Prop} (h:q5o g pre q):(All g→AllD pre)∧q:=by
 cases pre with
 | nil=>exact⟨fun _=>trivial,h⟩
 | cons p r=>exact⟨fun hg=>q5B (h.1 (conj_all hg)),h.2⟩
section
variable {w0 w : World} {bor : Bor} {im0 im : Nat → Prop} {ρ : Ids} {σ : AS} {a : Act}
theorem q1S (l:List Nat):∀ σ,AS.fzv l σ .dead=.dead:=by
 induction l with
 | nil=>intro σ; rfl
 | cons i l ih =>
  intro σ
  unfold AS.fzv
  split
  ·
   have:frz i _ ‹_› AV.dead=.dead:=rfl
   rw[this]; exact ih _
  ·
   exact ih _
theorem q1T {L:Locs} (hu:Uniq L) {i:Nat} {b:Blk} (h:(i,b)∈L):lget L i=some b:=by
 induction L with
 | nil=>cases h
 | cons x r ih =>
  obtain⟨j,b'⟩:=x
  unfold Uniq at hu
  simp only[List.map_cons,List.nodup_cons] at hu
  simp only[lget]
  rcases List.mem_cons.1 h with h1 | h1
  ·
   simp only[Prod.mk.injEq] at h1
   obtain⟨rfl,rfl⟩:=h1
   have:Nat.beq i i=true:=Nat.beq_refl i
   simp only[this]
  ·
   have hne:Nat.beq j i=false:=by
    cases hb:Nat.beq j i with
    | false=>rfl
    | true =>
     have:=nbeq hb
     subst this
     exact absurd (List.mem_map.2 ⟨_,h1,rfl⟩) hu.1
   simp only[hne]
   exact ih hu.2 h1
theorem qnC (h:SA w0 bor im0 im ρ σ a w) (L0:Locs):∀ (L:Locs),(∀ x∈L,x∈σ.locs)→∀ (args:List AV),(qq3 L0 L args).length=args.length ∧
  ∀ (j:Nat) (v:Value),Rep w (fun b=>b<w.heap.size) ρ v (nth args j)→Rep w (fun b=>b<w.heap.size) ρ v (nth (qq3 L0 L args) j)
 | [],_,args=>⟨rfl,fun _ _ h=>h⟩
 | (i,.cells cs)::r,hs,args=>by
  have ih:=qnC h L0 r (fun x hx=>hs x (List.mem_cons_of_mem _ hx)) (irfL i cs args)
  have hl:=q1T h.uniq (hs _ (List.mem_cons_self ..))
  obtain⟨ob,h1,h2⟩:=h.st.blk i _ hl
  rw[show qq3 L0 ((i,Blk.cells cs)::r) args=qq3 L0 r (irfL i cs args) from rfl]
  have key:(irfL i cs args).length=args.length∧∀ (j:Nat) (v:Value),Rep w (fun b=>b<w.heap.size) ρ v (nth args j)→Rep w (fun b=>b<w.heap.size) ρ v (nth (irfL i cs args) j):=by
   unfold irfL
   split
   ·
    split
    ·
     rename_i x hx
     refine⟨by simp,fun j v hr=>?_⟩
     rw[qag (by rfl)]
     unfold irf
     split
     ·
      rename_i k o hk
      rw[hk] at hr
      split
      ·
       rename_i hki
       have hki:=nbeq hki
       subst hki
       obtain⟨b,m,hb,rfl⟩:=hr.inv_ptr
       rw[hb] at h1
       simp only[Option.some.injEq] at h1
       subst h1
       obtain⟨b',cur,e,g1,g2,g3,g4,g5⟩:=h2
       simp only[Option.some.injEq] at g1
       subst g1
       obtain⟨q1,q2⟩:=qhf (w:=w) (im:=im) (ρ:=ρ) 27 cs x hx
       have hlt:∀ j,j<51→j<cur.size:=fun j hj=>by rw[g3,q1]; exact hj
       refine .iref (off:=0) (by exact(Array.getElem?_eq_some_iff.1 g2).1) (by omega) (fun j=>cur.getD j undef) (fun j hj=>?_) (fun j hj=>?_) (fun j hj=>?_)
       ·
        rw[qbJ w g2,Nat.zero_add]; exact qap (hlt j hj)
       ·
        exact g4 _ _ (qap (hlt j hj))
       ·
        exact(q2 j _ hj (g5 j _ (qap (hlt j hj)))).stable (fun _ _=>rfl) (fun b hb=>h.st.imlt b hb) (fun _ _ h=>h) (fun _ _ _ h=>by simp[qai] at h)
      ·
       exact hr
     ·
      exact hr
    ·
     exact⟨rfl,fun _ _ h=>h⟩
   ·
    exact⟨rfl,fun _ _ h=>h⟩
  exact⟨by rw[ih.1,key.1],fun j v hr=>ih.2 j v (key.2 j v hr)⟩
 | (i,.row c xs)::r,hs,args=>by
  have ih:=qnC h L0 r (fun x hx=>hs x (List.mem_cons_of_mem _ hx)) (frzL i c xs args)
  have hl:=q1T h.uniq (hs _ (List.mem_cons_self ..))
  obtain⟨ob,h1,h2⟩:=h.st.blk i _ hl
  have hB:BRep w (fun b=>b<w.heap.size) qai ob (.row c xs):=h2.closed.stable (fun _ _=>rfl) (fun b hb=>h.st.imlt b hb) (fun _ _ h=>h) (fun _ _ _ h=>by simp[qai] at h) (fun _ _=>rfl)
  refine⟨by rw[show qq3 L0 ((i,Blk.row c xs)::r) args=qq3 L0 r (frzL i c xs args) from rfl,ih.1,qff]; simp,fun j v hr=>ih.2 j v ?_⟩
  rw[qff,qag (by rfl)]
  exact hr.frz i hB (fun _ h=>h) (fun b hb=>h2.lt hb) (fun x hx=>by rw[h1] at hx; exact(Option.some.inj hx).symm) (fun _ _ _ h=>h)
theorem qb1 {L:Locs}:∀ (n:Nat) (todo acc:List Nat),(∀ i∈acc,lget L i≠none)→∀ i∈qeY L n todo acc,lget L i≠none
 | 0,todo,acc,h=>by unfold qeY; exact h
 | n+1,[],acc,h=>by unfold qeY; exact h
 | n+1,j::todo,acc,h=>by
  have hacc:∀ {b:Blk},lget L j=some b→∀ i∈acc++[j],lget L i≠none:=fun hb i hi=>by
   rcases List.mem_append.1 hi with h1 | h1
   ·
    exact h i h1
   ·
    simp only[List.mem_singleton] at h1
    subst h1; rw[hb]; simp
  unfold qeY
  split
  ·
   exact qb1 n _ _ h
  ·
   split
   ·
    exact qb1 n _ _ (hacc ‹_›)
   ·
    exact qb1 n _ _ (hacc ‹_›)
   ·
    exact qb1 n _ _ h
theorem qz7 {env:Env} {s:Spec} {o:Oper} {f:FuncId} {sp:FuncId→Option Spec} (hΓ:Gam env.P sp env.yw w0 bor im0) (hH:HB w env.P f s) (h:SA w0 bor im0 im ρ σ a w) {vals:Array Value} {args:List AV} (hl:vals.size=args.length)
  (hr:∀ (j:Nat) (v:Value),vals[j]? = some v→Rep w im ρ v (nth args j)) {id:Nat} {k:AS→Prop} {next:Act→World→Prop} {Q:Exit→Act→World→Prop}
  (hv:q5n env σ o.dst s args id k) (hn:Then (qby env) w o w0 bor im0 k next) (hkb:qc2 (qby env) o.op=true→False):Oper.upon env.P o a next Q ((callFunc f vals).run env.P w):=by
 unfold q5n at hv
 dsimp only at hv
 generalize qtG s.lend 0 args []=rd at hv
 obtain⟨im1,ρ1,h',hsub,habs,hfz,hkρ⟩:=h.freezeL rd
 generalize hl':qeY (σ.freezeL rd).locs 1000 (idsL (List.map (AS.fzv rd σ) args) []) []=l at hv
 split at hv
 ·
  rename_i B hB hchk
  simp only[Bool.and_eq_true] at hchk
  obtain⟨⟨hnd,hcl⟩,hlen⟩:=hchk
  have hnd:=qi1 hnd
  have hlen:=Nat.le_of_ble_eq_true hlen
  obtain⟨hLent,hBl,hf⟩:=h'.lent hnd hlen hB
  have hin:∀ (j i:Nat),l[j]? = some i→lget (σ.freezeL rd).locs i≠none:=fun j i hj=>by
   have:=qb1 1000 (idsL (List.map (AS.fzv rd σ) args) []) [] (fun i hi=>by cases hi) i (L:=(σ.freezeL rd).locs)
   rw[hl'] at this
   exact this (List.mem_of_getElem? hj)
  refine hH im1 _ vals _ B _ o a next Q (fun b hb=>h'.st.imlt b hb) (hΓ.at h') (by omega) hLent (by rw[qaQ]; simpa using hl) (fun j v hj=>?_) hv ?_
  ·
   have h1:=hfz v _ (hr j v hj)
   have e:nth (List.map (AS.fzv rd σ) args) j=AS.fzv rd σ (nth args j):=qag (q1S _ _) _ _
   rw[← e] at h1
   rw[qaQ,qag (by rfl)]
   exact(qbn h1 (qaR hcl j)).ren _ hf
  ·
   intro v w' im' ρ' r bs F hk hres
   unfold q1J at hk
   dsimp only at hk
   split at hk
   ·
    rename_i hab hclash
    rw[hBl] at hres
    obtain⟨im2,ρ2,h1,h2⟩:=h'.calledB hnd hlen hin hres hab
    exact hn _ _ _ _ _ (bindK_ok (k:=fun L=>k (AS.put ⟨((σ.freezeL rd).killD (qeZ l bs)).slots,((σ.freezeL rd).killD (qeZ l bs)).gs,L⟩ o.dst none (ren (hnum l l.length id) r))) (qrl hk)) (h1.put hclash h2) fun e=>(hkb e).elim
   ·
    exact hk.elim
 ·
  exact hv.elim
theorem q3J {ρ:Ids} {v:Value} {x:AV} (h:Rep w im ρ v x):Rep w im ρ v (q1K x):=by
 unfold q1K
 split
 ·
  cases h with | both h _=>exact h.any
 ·
  exact h
theorem q5C {v:Value} {x:AV} (h:Rep w im ρ v x):Rep w im ρ v (qzs x):=by
 cases x with
 | both a b=>cases h with | both h _=>exact h.any
 | agg l =>
  obtain⟨vs,rfl,h1,h2,h3⟩:=h.inv_agg
  exact .agg (by simpa using h1) h2 fun j v hj=>by rw[qag (f:=q1K) rfl]; exact q3J (h3 j v hj)
 | _=>exact h
theorem q3K {env:Env} (hΓ:Gam env.P env.spec env.yw w0 bor im0) (h:SA w0 bor im0 im ρ σ a w) {o:Oper} {f:FuncId} {vals:Array Value} {args:List AV} (hl:vals.size=args.length)
  (hr:∀ (j:Nat) (v:Value),vals[j]? = some v→Rep w im ρ v (nth args j)) {id:Nat} {k:AS→Prop} {next:Act→World→Prop} {Q:Exit→Act→World→Prop}
  (hv:qvR env σ o.dst f args id k) (hn:Then (qby env) w o w0 bor im0 k next) (hkb:qc2 (qby env) o.op=true→qby env f=false):Oper.upon env.P o a next Q ((callFunc f vals).run env.P w):=by
 unfold qvR at hv
 have hl2:vals.size=(args.map qzs).length:=by simpa using hl
 have hr2:∀ (j:Nat) (v:Value),vals[j]? = some v→Rep w im ρ v (nth (args.map qzs) j):=fun j v hj=>by
  rw[qag (f:=qzs) rfl]; exact q5C (hr j v hj)
 dsimp only at hv
 generalize args.map qzs=args' at hv hl2 hr2
 clear hl hr
 have hl:=hl2
 have hr:=hr2
 split at hv
 ·
  exact hv.elim
 ·
  rename_i s hs
  have hH:=hΓ.h f s hs
  split at hv
  ·
   rename_i o1 os hown
   exact qz7 hΓ (hH.b hown w h.st.size) h hl hr hv hn fun e=>by
    have e:=hkb e
    unfold qby at e
    rw[hs] at e
    dsimp only at e
    rw[hown] at e
    cases e
  rename_i hown
  have hH:=hH.a hown w h.st.size
  split at hv
  ·
   rename_i hro
   split at hv
   ·
    rename_i hnid
    obtain⟨hlen,hrep⟩:=qnC h σ.locs σ.locs (fun _ h=>h) args'
    refine hH (fun b=>b<w.heap.size) vals _ _ o a next Q (fun _ h=>h) (hΓ.atH h) (by rw[hlen]; exact hl) (fun j v hj=>?_) hv ?_
    ·
     have:=hrep j v ((hr j v hj).stable (fun _ _=>rfl) (fun b hb=>h.st.imlt b hb) (fun _ _ h=>h) (fun _ _ _ _=>rfl))
     exact qn9 this (qnA _ hnid j)
    ·
     intro v w' im' ρ' r F hk hres
     split at hk
     ·
      rename_i hab hcl
      obtain⟨im2,ρ2,h1,h2⟩:=h.called hres (fun e=>by rw[hro] at e; cases e) hab
      exact hn _ _ _ _ _ (qrl hk) (h1.put hcl h2) fun _=>.of_heap hres.below.size hres.below.block
     ·
      exact hk.elim
   ·
    exact hv.elim
  ·
   rename_i hro
   obtain⟨im1,ρ1,h',hsub,habs,hfz,hkρ⟩:=h.freezeL (idsL args' [])
   split at hv
   ·
    rename_i hnid
    refine hH im1 vals _ _ o a next Q (fun b hb=>h'.st.imlt b hb) (hΓ.at h') (by simpa using hl) (fun j v hj=>?_) hv ?_
    ·
     have:=hfz v _ (hr j v hj)
     have e:nth (List.map (AS.fzv (idsL args' []) σ) args') j=AS.fzv (idsL args' []) σ (nth args' j):=qag (q1S _ _) _ _
     rw[← e] at this
     exact qn9 this (qnA _ hnid j)
    ·
     intro v w' im' ρ' r F hk hres
     split at hk
     ·
      rename_i hab hcl
      obtain⟨im2,ρ2,h1,h2⟩:=h'.called hres (fun _ _=>Iff.rfl) hab
      exact hn _ _ _ _ _ (qrl hk) (h1.put hcl h2) fun _=>.of_heap hres.below.size hres.below.block
     ·
      exact hk.elim
   ·
    exact hv.elim
theorem qnD {env:Env} (hΓ:Gam env.P env.spec env.yw w0 bor im0) (h:SA w0 bor im0 im ρ σ a w) {o:Oper} {id:Nat} {k:AS→Prop} {next:Act→World→Prop} {Q:Exit→Act→World→Prop} {g:Gd}
  (hg:GdOK a g) (hv:eop env σ g o id k) (hn:Then (qby env) w o w0 bor im0 k next):o.wp env.P a w next Q:=by
 cases ho:o.op with
 | alloc t=>exact qz2 h ho hv hn
 | box t x=>exact q56 h ho hg hv hn
 | store t ad x=>exact qz4 hΓ.wd h ho hg hv hn
 | buildSlice t len parts=>exact qmq h ho hg hv hn
 | makeSlice t l c=>exact qn7 h ho hg hv hn
 | convert s d x=>exact qtX h ho hg hv hn
 | binOp op t x y t'=>exact q3F h ho hg hv hn
 | call c =>
  unfold eop at hv
  rw[ho] at hv
  dsimp only at hv
  split at hv
  ·
   rename_i hc hcl
   exact qwg h ho hc hg hcl hv hn
  ·
   rename_i hc hcl
   exact q3I h ho hc hg hcl hv hn
  ·
   rename_i f hc hcl
   split at hv
   ·
    rename_i n first captured hf
    have hr:=h.ev hg f
    rw[hf] at hr
    obtain⟨vs,us,hfe,hvs,hus,h1,h2⟩:=hr.inv_fn
    have hargs:=qdQ a.eval (σ.ev g) (fun x=>h.ev hg x) c.args.toList
    unfold Oper.wp
    have hrun:(execOp a.eval o).run env.P w=(callFunc n (vs++c.args.map a.eval++us)).run env.P w:=by
     simp only[execOp,ho,resolve,hc,hfe,Deferred.ofValue,Sem.run_bind,Sem.run_pure,Result.andThen_ok,invoke]
    rw[hrun]
    refine q3K hΓ h ?_ ?_ hv hn (fun e=>?_)
    case refine_3 =>
     rw[ho] at e
     simp only[qc2,hc] at e
     cases f with
     | func f' =>
      simp only[AS.ev,AV.fn.injEq,Fn.func.injEq] at hf
      rw[← hf.1]
      simpa using e
     | tmp t=>cases e
     | const v=>cases e
     | «global» n=>cases e
    ·
     simp[hvs,hus]
    ·
     intro j v hj
     rw[Array.getElem?_append] at hj
     split at hj
     ·
      rename_i hj1
      rw[qam,List.getElem?_append_left (by simp at hj1 ⊢; omega),← qam]
      rw[Array.getElem?_append] at hj
      split at hj
      ·
       rename_i hj2
       rw[qam,List.getElem?_append_left (by omega),← qam]
       exact h1 j v hj
      ·
       rename_i hj2
       rw[qam,List.getElem?_append_right (by omega),← qam,← hvs]
       exact hargs _ v (by simpa using hj)
     ·
      rename_i hj1
      simp only[Array.size_append,Array.size_map] at hj1 hj
      rw[qam,List.getElem?_append_right (by simp; omega),← qam]
      have e:j - (first++List.map (σ.ev g) c.args.toList).length=j - (vs.size+c.args.size):=by simp[hvs]
      rw[e]
      exact h2 _ v hj
   ·
    exact hv.elim
  ·
   exact hv.elim
 | _=>unfold eop at hv; rw[ho] at hv; exact hv.elim
end
end Go.Eng
