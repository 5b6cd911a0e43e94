import Derived.Test.YtcdppfnjidlknaaGreatDoorYaf
import Derived.Laws.CopyRow
import Derived.Laws.IdiomCopy
import Derived.Lib.AppendZeros
import Derived.Lib.AppendZerosOnto
set_option linter.unusedVariables false
set_option linter.unusedSimpArgs false
namespace Go.Eng
open Go
def q07 (c:Nat)(w:World)(im:Nat→Prop)(u:Value)(m:Nat)(ys:List (ty c)):Prop :=
 (u=.slice none 0 0∧m=0∧ys=[])∨(∃ a,u=.slice (some a) 0 0∧m=0∧ys=[])∨∃ b off cap,∃ f:Nat→Value,u=.slice (some ⟨b,off,none⟩) m cap∧ys.length=m∧(∀ q,q<m*szOf c→w.cell? ⟨b,off+q,none⟩=some (f q)) ∧
  (∀ q,q<m*szOf c→(f q).oneCell'=true)∧∀ i j y,ys[i]? = some y→j<szOf c→Rep w im qai (f (i*szOf c+j)) (nth (enc c y) j)
def DstOK (c:Nat)(w:World)(u:Value)(n:Nat)(b:Option Nat):Prop :=
 (u=.slice none 0 0∧n=0∧b=none)∨∃ b' cur e cap,b=some b'∧u=.slice (some ⟨b',0,none⟩) n cap∧w.heap[b']? = some (.cells cur e (0,0))∧n≤cap∧cap≤maxLen∧cap*szOf c≤cur.size ∧
  ∀ (j:Nat) (v:Value),cur[j]? = some v→v.oneCell'=true
theorem qsc {c q m:Nat}(hpos:0<szOf c)(hq:q<m*szOf c):q / szOf c<m∧q % szOf c<szOf c∧q / szOf c*szOf c+q % szOf c=q:=by
 refine⟨?_,Nat.mod_lt _ hpos,?_⟩
 ·
  exact(Nat.div_lt_iff_lt_mul hpos).2 hq
 ·
  rw[Nat.mul_comm];exact Nat.div_add_mod q _
section
variable {w : World} {im : Nat → Prop} {ρ : Ids}
theorem src_sl {c:Nat}(hpos:0<szOf c){ys:List (ty c)}{u:Value}(h:Rep w im ρ u (.sl c ys)):q07 c w im u ys.length ys:=by
 cases h with
 |sl0=>exact .inl ⟨rfl,rfl,rfl⟩
 |emp=>exact .inr (.inl ⟨_,rfl,rfl,rfl⟩)
 | @sl _ b off cap _ len _ hbim hn hcap hm vals hcell hone hrep =>
  subst hn
  refine .inr (.inr ⟨b,off,cap,fun q=>vals (q / szOf c) (q % szOf c),rfl,rfl,fun q hq=>?_,fun q hq=>?_,fun i j y hy hj=>?_⟩)
  ·
   obtain⟨h1,h2,h3⟩:=qsc hpos hq
   have:=hcell _ _ h1 h2
   rw[Nat.add_assoc,h3] at this
   exact this
  ·
   obtain⟨h1,h2,h3⟩:=qsc hpos hq
   exact hone _ _ h1 h2
  ·
   have e1:(i*szOf c+j) / szOf c=i:=by
    rw[Nat.mul_comm,Nat.mul_add_div hpos,Nat.div_eq_of_lt hj,Nat.add_zero]
   have e2:(i*szOf c+j) % szOf c=j:=by
    rw[Nat.mul_comm,Nat.mul_add_mod,Nat.mod_eq_of_lt hj]
   show Rep w im qai (vals ((i*szOf c+j) / szOf c) ((i*szOf c+j) % szOf c)) _
   rw[e1,e2]
   exact hrep i j y hy hj
theorem src_row {c i o m:Nat} (hpos:0<szOf c) {xs:List (ty c)} {u:Value} {ob:Option Nat×Nat} (h:Rep w im ρ u (.row c i o m)) (hρ:ρ i=some ob) (hB:BRep w im ρ ob (.row c xs)) :
  q07 c w im u m ((xs.drop o).take m):=by
 have hfz:=h.frz (im':=fun b=>True) i hB.closed (fun _ _=>trivial) (fun _ _=>trivial) (fun x hx=>by rw[hρ] at hx;exact(Option.some.inj hx).symm) (ρ':=ρ) (fun _ _ _ h=>h)
 cases h with
 |row0 h=>exact .inl ⟨rfl,rfl,by simp⟩
 | @rowE _ _ _ _ b off cap m0 h ho hm=>exact .inr (.inr ⟨b,off,cap,fun _=>undef,rfl,by simp,fun q hq=>absurd hq (by simp),fun q hq=>absurd hq (by simp),fun i j y hy hj=>absurd hy (by simp)⟩)
 | @row _ _ _ b _ _ cap e off m0 x0 h hle ho hn hm hs =>
  rw[hρ] at h
  simp only[Option.some.injEq] at h
  subst h
  obtain⟨hk,hB⟩:=hB
  dsimp only at hk hB
  rcases hB with ⟨h1,-⟩|⟨b',cur,e',cap',h1,hh,hsz,hcap,hm',hone,hrep⟩
  ·
   cases h1
  ·
   simp only[Option.some.injEq] at h1
   subst h1
   subst ho
   have hlt:∀ q,q<m*szOf c→o*szOf c+q<cur.size:=fun q hq=>by
    rw[hsz]
    have h2:(o+m)*szOf c≤cap'*szOf c:=Nat.mul_le_mul_right _ (by omega)
    rw[Nat.add_mul] at h2
    omega
   refine .inr (.inr ⟨b,o*szOf c,cap,fun q=>cur.getD (o*szOf c+q) undef,rfl,by simp;omega,fun q hq=>?_,fun q hq=>?_,fun i j y hy hj=>?_⟩)
   ·
    rw[qbV w hh];exact qar (hlt q hq)
   ·
    exact hone _ _ (qar (hlt q hq))
   ·
    have h3:=qbO hy
    rw[List.length_take,List.length_drop] at h3
    have h3a:i<m:=by omega
    rw[List.getElem?_take,if_pos h3a,List.getElem?_drop] at hy
    have e1:o*szOf c+(i*szOf c+j)=(o+i)*szOf c+j:=by rw[Nat.add_mul];omega
    have hq:i*szOf c+j<m*szOf c:=qel h3a hj
    have:=hrep (o+i) j y _ hy hj (by rw[← e1];exact qar (hlt _ hq))
    show Rep w im qai (cur.getD (o*szOf c+(i*szOf c+j)) undef) _
    exact this
theorem dst_row {c i n:Nat} {xs:List (ty c)} {u:Value} {ob:Option Nat×Nat} (h:Rep w im ρ u (.row c i 0 n)) (hρ:ρ i=some ob) (hB:BRep w im ρ ob (.row c xs)) :
  DstOK c w u n ob.1∧n≤xs.length:=by
 cases h with
 |row0 h =>
  rw[hρ] at h
  simp only[Option.some.injEq] at h
  subst h
  exact⟨.inl ⟨rfl,rfl,rfl⟩,Nat.zero_le _⟩
 |rowE h ho hm=>exact absurd ho (Nat.lt_irrefl _)
 | @row _ _ _ b _ _ cap e off m0 x0 h hle ho hn hm hs =>
  rw[hρ] at h
  simp only[Option.some.injEq] at h
  subst h
  obtain⟨hk,hB⟩:=hB
  dsimp only at hk hB
  rcases hB with ⟨h1,-⟩|⟨b',cur,e',cap',h1,hh,hsz,hcap,hm',hone,hrep⟩
  ·
   cases h1
  ·
   simp only[Option.some.injEq] at h1
   subst h1
   have:off=0:=by omega
   subst this
   refine⟨.inr ⟨b,cur,e',cap,rfl,rfl,hh,hn,hm,?_,hone⟩,by omega⟩
   have h2:w.shape? b=some (e',cur.size):=by simp[World.shape?,hh]
   rw[h2] at hs
   simp only[Option.some.injEq,Prod.mk.injEq,Nat.zero_add] at hs
   rw[hs.2]
   exact Nat.mul_le_mul_right _ (by omega)
theorem room_run {P:Program} {t e b n cap m:Nat} {ty':TypeId} {i:TypeInfo} {x:Value} {cur:Array Value} {e':TypeId} (ht:P.underlying t=some (.slice e)) (hi:P.info? e=some i)
  (hh:w.heap[b]? = some (.cells cur e' (0,0))) {news:List Value} (hnl:news.length=m*i.size) (hlen:(Builtin.lenOf x).run P w=.ok m w) (hcells:(Builtin.firstCells i.size m x).run P w=.ok news.toArray w)
  (hone:∀ v∈news,v.oneCell'=true) (hroom:n+m≤cap) (hsz:cap*i.size≤cur.size) :
  (Builtin.append_ #[t,t] ty' #[.slice (some ⟨b,0,none⟩) n cap,x]).run P w =
   .ok (.slice (some ⟨b,0,none⟩) (n+m) cap) (w.setRow b (cur.toList.take (n*i.size)++news++cur.toList.drop (n*i.size+news.length)).toArray):=by
 have hfit:n*i.size+news.length≤cur.size:=by rw[hnl,← Nat.add_mul];exact Nat.le_trans (Nat.mul_le_mul_right _ hroom) hsz
 have hst:=run_storeCells_at P b (n*i.size) e' news 0 cur w hh (by simpa using hfit) hone
 simp only[Nat.add_zero] at hst
 simp[Builtin.append_,run_underlying ht,sizeOf,typeInfo,hi,hlen,hroom,hcells,qaV,hst]
def tab (f:Nat→Value)(n:Nat):List Value:=(List.range n).map f
theorem qaX (f:Nat→Value)(n:Nat):(tab f n).length=n:=by simp[tab]
theorem qhT {f:Nat→Value}{n q:Nat}{v:Value}(h:(tab f n)[q]? = some v):q<n∧v=f q:=by
 have h1:=qbO h
 rw[qaX] at h1
 refine⟨h1,?_⟩
 unfold tab at h
 rw[List.getElem?_map,List.getElem?_range h1] at h
 exact(Option.some.inj h).symm
theorem tab_at {f:Nat→Value}{n q:Nat}(h:q<n):(tab f n)[q]? = some (f q):=by
 unfold tab
 rw[List.getElem?_map,List.getElem?_range h];rfl
theorem q4J {P:Program} {t e:Nat} {ty':TypeId} {i:TypeInfo} {z:Value} {c:Nat} (ht:P.underlying t=some (.slice e)) (hi:P.info? e=some i) (hz:i.zero=some z) (hsz:i.size=szOf c) (hpos:0<szOf c)
  (hzc:z.cells.size=szOf c) (hzone:∀ (j:Nat) (v:Value),z.cells[j]? = some v→v.oneCell'=true)
  {sv xv:Value} {n m:Nat} {bo:Option Nat} {ys:List (ty c)} (hd:DstOK c w sv n bo) (hs:q07 c w im xv m ys) (hb:(n+m)*i.bytes≤140737488355328) (hml:n+m≤maxLen) :
  ∃ v' w',(Builtin.append_ #[t,t] ty' #[sv,xv]).run P w=.ok v' w' ∧
   ((n+m=0∧bo=none∧v'=.slice none 0 0∧w'=w) ∨
   (∃ b cur e' cap cur',bo=some b∧w.heap[b]? = some (.cells cur e' (0,0))∧v'=.slice (some ⟨b,0,none⟩) (n+m) cap∧w'=w.setRow b cur'∧n+m≤cap∧cap≤maxLen∧cap*szOf c≤cur.size∧cur'.size=cur.size ∧
     (∀ (j:Nat) (v:Value),cur'[j]? = some v→v.oneCell'=true)∧(∀ q,q<n*szOf c→cur'[q]? = cur[q]?) ∧
     (∀ i j y v,ys[i]? = some y→j<szOf c→cur'[(n+i)*szOf c+j]? = some v→Rep w im qai v (nth (enc c y) j))) ∨
   (∃ cap cur',v'=.slice (some ⟨w.heap.size,0,none⟩) (n+m) cap∧w'=w.drew.alloc (.cells cur' e)∧n+m≤cap∧cap≤maxLen∧cur'.size=cap*szOf c ∧
     (∀ (j:Nat) (v:Value),cur'[j]? = some v→v.oneCell'=true)∧(∀ q,q<n*szOf c→∀ b cur e',bo=some b→w.heap[b]? = some (.cells cur e' (0,0))→cur'[q]? = cur[q]?) ∧
     (∀ i j y v,ys[i]? = some y→j<szOf c→cur'[(n+i)*szOf c+j]? = some v→Rep w im qai v (nth (enc c y) j)))):=by
 have hsmall:n+m≤9223372036854775807:=by unfold maxLen at hml;omega
 have hzr:∀ k (j:Nat) (v:Value),(Builtin.zeroCells z.cells k)[j]? = some v→v.oneCell'=true:=fun k j v hj=>by
  unfold Builtin.zeroCells at hj
  exact(qf5 (zs:=z.cells) (by omega) hzone _ j v hj).2.2
 obtain⟨news,hnl,hnone,hlen,hcells,hrep,hadr⟩:∃ news:List Value,news.length=m*szOf c∧(∀ v∈news,v.oneCell'=true)∧(Builtin.lenOf xv).run P w=.ok m w∧(Builtin.firstCells i.size m xv).run P w=.ok news.toArray w ∧
   (∀ i j y v,ys[i]? = some y→j<szOf c→news[i*szOf c+j]? = some v→Rep w im qai v (nth (enc c y) j)) ∧
   (0<m→∃ ad cap,xv=.slice (some ad) m cap∧∀ j v,news[j]? = some v→w.cell? (ad.add j)=some v):=by
  rcases hs with ⟨rfl,rfl,rfl⟩|⟨a,rfl,rfl,rfl⟩|⟨b,off,cap,f,rfl,hyl,hf,hfo,hfr⟩
  ·
   exact⟨[],by simp,by simp,by simp[Builtin.lenOf],by simp[Builtin.firstCells],by simp,by omega⟩
  ·
   refine⟨[],by simp,by simp,by simp[Builtin.lenOf],?_,by simp,by omega⟩
   exact run_firstCells_some (P:=P) w i.size 0 a 0 0 _ (by simp) (fun j v hj=>by simp at hj)
  ·
   have hadr:∀ j v,(tab f (m*szOf c))[j]? = some v→w.cell? ((⟨b,off,none⟩:Addr).add j)=some v:=fun j v hj=>by
    obtain⟨h1,rfl⟩:=qhT hj
    rw[qaV];exact hf j h1
   refine⟨tab f (m*szOf c),qaX _ _,fun v hv=>?_,by simp[Builtin.lenOf],?_,fun i j y v hy hj hv=>?_,fun _=>⟨_,_,rfl,hadr⟩⟩
   ·
    obtain⟨q,hq⟩:=List.getElem?_of_mem hv
    obtain⟨h1,rfl⟩:=qhT hq
    exact hfo q h1
   ·
    exact run_firstCells_some (P:=P) w i.size m _ m cap _ (by rw[qaX,hsz]) hadr
   ·
    obtain⟨h1,rfl⟩:=qhT hv
    exact hfr i j y hy hj
 have hget:∀ {q:Nat} {v:Value},news[q]? = some v→v.oneCell'=true:=fun h=>hnone _ (List.mem_of_getElem? h)
 rcases hd with ⟨rfl,rfl,rfl⟩|⟨b,cur,e',cap,rfl,rfl,hh,hn,hcm,hcs,hcone⟩
 ·
  by_cases hm:m=0
  ·
   subst hm
   refine⟨.slice none 0 0,w,?_,.inl ⟨rfl,rfl,rfl,rfl⟩⟩
   have hn0:news=[]:=List.eq_nil_of_length_eq_zero (by rw[hnl];simp)
   subst hn0
   simp[Builtin.append_,run_underlying ht,sizeOf,typeInfo,hi,hlen,hcells]
  ·
   obtain⟨ad,cp,rfl,hadr'⟩:=hadr (by omega)
   have hr:=run_append_nil (P:=P) w t ty' e i z ht hi hz ad m cp news (by rw[hnl,hsz]) hadr' (by omega) (by omega) (by rw[Nat.zero_add] at hb;omega)
   refine⟨_,_,hr,.inr (.inr ⟨grownCap w m 0 e,_,by rw[Nat.zero_add],rfl,by rw[Nat.zero_add];exact grownCap_ge ..,grownCap_le_maxLen _ _ _ _ (by omega),?_,?_,?_,?_⟩)⟩
   ·
    have:=grownCap_ge w m 0 e
    simp only[Array.size_append,List.size_toArray,size_zeroCells,hnl,hzc,← Nat.add_mul]
    congr 1;omega
   ·
    intro j v hj
    rw[Array.getElem?_append] at hj
    split at hj
    ·
     exact hget (by simpa using hj)
    ·
     exact hzr _ _ _ hj
   ·
    intro q hq;simp at hq
   ·
    intro i' j y v hy hj hv
    have hyl:i'<m:=by
     rcases hs with ⟨_,h2,_⟩|⟨_,_,h2,_⟩|⟨_,_,_,_,_,h2,_⟩
     ·
      omega
     ·
      omega
     ·
      have:=qbO hy;omega
    rw[Nat.zero_add,Array.getElem?_append,if_pos (by simp[hnl];exact qel hyl hj)] at hv
    exact hrep i' j y v hy hj (by simpa using hv)
 ·
  by_cases hroom:n+m≤cap
  ·
   have hr:=room_run (P:=P) (ty':=ty') ht hi hh (by rw[hnl,hsz]) hlen hcells hnone hroom (by rw[hsz];exact hcs)
   rw[hsz] at hr
   have hfit:n*szOf c+news.length≤cur.size:=by rw[hnl,← Nat.add_mul];exact Nat.le_trans (Nat.mul_le_mul_right _ hroom) hcs
   refine⟨_,_,hr,.inr (.inl ⟨b,cur,e',cap,_,rfl,hh,rfl,rfl,hroom,hcm,?_,?_,?_,?_,?_⟩)⟩
   ·
    exact hcs
   ·
    simp;omega
   ·
    intro j v hj
    rw[qaQ _ _ _ hfit] at hj
    split at hj
    ·
     exact hget hj
    ·
     exact hcone _ _ hj
   ·
    intro q hq
    rw[qaQ _ _ _ hfit,if_neg (by omega)]
   ·
    intro i' j y v hy hj hv
    have hyl:i'<m:=by
     rcases hs with ⟨_,h2,h3⟩|⟨_,_,h2,h3⟩|⟨_,_,_,_,_,h2,_⟩
     ·
      subst h3;simp at hy
     ·
      subst h3;simp at hy
     ·
      have:=qbO hy;omega
    have hlt:=qel (cap:=m) hyl hj
    rw[qaQ _ _ _ hfit,if_pos (by rw[hnl,Nat.add_mul];omega)] at hv
    refine hrep i' j y v hy hj ?_
    rw[← hv];congr 1;rw[Nat.add_mul];omega
  ·
   obtain⟨ad,cp,rfl,hadr'⟩:=hadr (by omega)
   have hlt:∀ q,q<n*szOf c→q<cur.size:=fun q hq=>by
    exact Nat.lt_of_lt_of_le hq (Nat.le_trans (Nat.mul_le_mul_right _ hn) hcs)
   have hold:∀ j v,(tab (fun q=>cur.getD q undef) (n*szOf c))[j]? = some v→w.cell? ((⟨b,0,none⟩:Addr).add j)=some v:=fun j v hj=>by
    obtain⟨h1,rfl⟩:=qhT hj
    rw[qaV,Nat.zero_add,qbV w hh]
    exact qar (hlt j h1)
   have hr:=run_append_grow (P:=P) w t ty' e i z ht hi hz ⟨b,0,none⟩ n cap (tab (fun q=>cur.getD q undef) (n*szOf c)) (by rw[qaX,hsz]) hold ad m cp news (by rw[hnl,hsz]) hadr' (by omega) (by omega) (growslice_fits (by omega) hb)
   have hge:=grownCap_ge w (n+m) cap e
   refine⟨_,_,hr,.inr (.inr ⟨grownCap w (n+m) cap e,_,rfl,rfl,hge,grownCap_le_maxLen _ _ _ _ hml,?_,?_,?_,?_⟩)⟩
   ·
    simp only[Array.size_append,List.size_toArray,size_zeroCells,hnl,hzc,qaX,← Nat.add_mul]
    congr 1;omega
   ·
    intro j v hj
    rw[Array.getElem?_append] at hj
    split at hj
    ·
     rw[Array.getElem?_append] at hj
     split at hj
     ·
      have hj':(tab (fun q=>cur.getD q undef) (n*szOf c))[j]? = some v:=by simpa using hj
      obtain⟨h1,rfl⟩:=qhT hj'
      exact hcone _ _ (qar (hlt j h1))
     ·
      exact hget (by simpa using hj)
    ·
     exact hzr _ _ _ hj
   ·
    intro q hq b2 cur2 e2 hb2 hh2
    simp only[Option.some.injEq] at hb2
    subst hb2
    rw[hh] at hh2
    simp only[Option.some.injEq,Obj.cells.injEq] at hh2
    obtain⟨rfl,rfl,-⟩:=hh2
    rw[Array.getElem?_append,if_pos (by simp[qaX];omega),Array.getElem?_append,if_pos (by simp[qaX];exact hq)]
    have:=tab_at (f:=fun q=>cur.getD q undef) hq
    rw[List.getElem?_toArray,this]
    exact(qar (hlt q hq)).symm
   ·
    intro i' j y v hy hj hv
    have hyl:i'<m:=by
     rcases hs with ⟨_,h2,h3⟩|⟨_,_,h2,h3⟩|⟨_,_,_,_,_,h2,_⟩
     ·
      subst h3;simp at hy
     ·
      subst h3;simp at hy
     ·
      have:=qbO hy;omega
    have hlt:=qel (cap:=m) hyl hj
    rw[Array.getElem?_append,if_pos (by simp[qaX,hnl,Nat.add_mul];omega),Array.getElem?_append,if_neg (by simp[qaX,Nat.add_mul];omega)] at hv
    refine hrep i' j y v hy hj ?_
    have e9:(n+i')*szOf c+j-(tab (fun q=>cur.getD q undef) (n*szOf c)).toArray.size=i'*szOf c+j:=by
     simp[qaX,Nat.add_mul];omega
    rw[e9] at hv
    simpa using hv
theorem q4K {P:Program} {t tn e b n cap m:Nat} {kn:IntKind} {ty':TypeId} {i:TypeInfo} {z:Value} {cur:Array Value} {e':TypeId} (ht:P.underlying t=some (.slice e)) (htn:P.underlying tn=some (.int kn)) (hi:P.info? e=some i) (hz:i.zero=some z)
  (hh:w.heap[b]? = some (.cells cur e' (0,0))) {news:List Value} (hnw:(Builtin.zeroCells z.cells m).toList=news) (hnl:news.length=m*i.size)
  (hone:∀ v∈news,v.oneCell'=true) (hroom:n+m≤cap) (hsz:cap*i.size≤cur.size) (hm:m≤9223372036854775807) (hmb:m*i.bytes≤281474976710656) :
  (Builtin.append_ #[t,tn] ty' #[.slice (some ⟨b,0,none⟩) n cap,.int .i64 m]).run P w =
   .ok (.slice (some ⟨b,0,none⟩) (n+m) cap) (w.setRow b (cur.toList.take (n*i.size)++news++cur.toList.drop (n*i.size+news.length)).toArray):=by
 have hfit:n*i.size+news.length≤cur.size:=by rw[hnl,← Nat.add_mul];exact Nat.le_trans (Nat.mul_le_mul_right _ hroom) hsz
 have hst:=run_storeCells_at P b (n*i.size) e' news 0 cur w hh (by simpa using hfit) hone
 simp only[Nat.add_zero] at hst
 have hw:IntKind.i64.wrap (m:Int)=m:=by rw[IntKind.wrap_i64];omega
 have hneg:¬ ((m:Int)<0):=by omega
 have h48i:¬ (281474976710656<(m:Int)*(i.bytes:Int)):=by
  rw[← Int.natCast_mul]
  omega
 by_cases hns:m*i.size=0
 ·
  have hn0:news=[]:=List.eq_nil_of_length_eq_zero (by rw[hnl,hns])
  subst hn0
  simp at hst
  simp[Builtin.append_,run_underlying ht,run_underlying htn,sizeOf,typeInfo,zeroValue,hi,hz,asInt,asIntOf,hw,hneg,h48i,hns,hroom,qaV,hst]
 ·
  simp[Builtin.append_,run_underlying ht,run_underlying htn,sizeOf,typeInfo,zeroValue,hi,hz,asInt,asIntOf,hw,hneg,h48i,hns,hroom,qaV,hnw,hst]
theorem zero_run {P:Program} {t tn e:Nat} {kn:IntKind} {ty':TypeId} {i:TypeInfo} {z:Value} {c:Nat} (ht:P.underlying t=some (.slice e)) (htn:P.underlying tn=some (.int kn)) (hi:P.info? e=some i) (hz:i.zero=some z) (hsz:i.size=szOf c) (hpos:0<szOf c)
  (hzc:z.cells.size=szOf c) (hzone:∀ (j:Nat) (v:Value),z.cells[j]? = some v→v.oneCell'=true)
  {sv:Value} {n m:Nat} {bo:Option Nat} {x:ty c} (hd:DstOK c w sv n bo) (hx:∀ j v,j<szOf c→z.cells[j]? = some v→Rep w im qai v (nth (enc c x) j)) (hb:(n+m)*i.bytes≤140737488355328) (hml:n+m≤maxLen) :
  ∃ v' w',(Builtin.append_ #[t,tn] ty' #[sv,.int .i64 m]).run P w=.ok v' w' ∧
   ((n+m=0∧bo=none∧v'=.slice none 0 0∧w'=w) ∨
   (∃ b cur e' cap cur',bo=some b∧w.heap[b]? = some (.cells cur e' (0,0))∧v'=.slice (some ⟨b,0,none⟩) (n+m) cap∧w'=w.setRow b cur'∧n+m≤cap∧cap≤maxLen∧cap*szOf c≤cur.size∧cur'.size=cur.size ∧
     (∀ (j:Nat) (v:Value),cur'[j]? = some v→v.oneCell'=true)∧(∀ q,q<n*szOf c→cur'[q]? = cur[q]?) ∧
     (∀ i j y v,(List.replicate m x)[i]? = some y→j<szOf c→cur'[(n+i)*szOf c+j]? = some v→Rep w im qai v (nth (enc c y) j))) ∨
   (∃ cap cur',v'=.slice (some ⟨w.heap.size,0,none⟩) (n+m) cap∧w'=w.drew.alloc (.cells cur' e)∧n+m≤cap∧cap≤maxLen∧cur'.size=cap*szOf c ∧
     (∀ (j:Nat) (v:Value),cur'[j]? = some v→v.oneCell'=true)∧(∀ q,q<n*szOf c→∀ b cur e',bo=some b→w.heap[b]? = some (.cells cur e' (0,0))→cur'[q]? = cur[q]?) ∧
     (∀ i j y v,(List.replicate m x)[i]? = some y→j<szOf c→cur'[(n+i)*szOf c+j]? = some v→Rep w im qai v (nth (enc c y) j)))):=by
 have hsmall:n+m≤9223372036854775807:=by unfold maxLen at hml;omega
 have hzr:∀ k (j:Nat) (v:Value),(Builtin.zeroCells z.cells k)[j]? = some v→v.oneCell'=true:=fun k j v hj=>by
  unfold Builtin.zeroCells at hj
  exact(qf5 (zs:=z.cells) (by omega) hzone _ j v hj).2.2
 generalize hnw:(Builtin.zeroCells z.cells m).toList=news
 have hnl:news.length=m*szOf c:=by rw[← hnw,Array.length_toList,size_zeroCells,hzc]
 have hnone:∀ v∈news,v.oneCell'=true:=fun v hv=>by
  obtain⟨q,hq⟩:=List.getElem?_of_mem hv
  rw[← hnw] at hq
  exact hzr m q v (by simpa using hq)
 have hrep:∀ i j y v,(List.replicate m x)[i]? = some y→j<szOf c→news[i*szOf c+j]? = some v→Rep w im qai v (nth (enc c y) j):=fun i j y v hy hj hv=>by
  rw[List.getElem?_replicate] at hy
  split at hy
  ·
   simp only[Option.some.injEq] at hy;subst hy
   rw[← hnw] at hv
   have hv':(Builtin.zeroCells z.cells m)[i*szOf c+j]? = some v:=by simpa using hv
   unfold Builtin.zeroCells at hv'
   obtain⟨-,h2,-⟩:=qf5 (zs:=z.cells) (by omega) hzone _ _ v hv'
   have hm:(i*szOf c+j) % z.cells.size=j:=by
    rw[hzc,Nat.add_comm,Nat.add_mul_mod_self_right];exact Nat.mod_eq_of_lt hj
   rw[hm] at h2
   have:j<z.cells.size:=by omega
   refine hx j v hj ?_
   rw[h2];simp[this]
  ·
   cases hy
 have hget:∀ {q:Nat} {v:Value},news[q]? = some v→v.oneCell'=true:=fun h=>hnone _ (List.mem_of_getElem? h)
 rcases hd with ⟨rfl,rfl,rfl⟩|⟨b,cur,e',cap,rfl,rfl,hh,hn,hcm,hcs,hcone⟩
 ·
  by_cases hm:m=0
  ·
   subst hm
   refine⟨.slice none 0 0,w,?_,.inl ⟨rfl,rfl,rfl,rfl⟩⟩
   simp[Builtin.append_,run_underlying ht,run_underlying htn,sizeOf,typeInfo,hi,asInt,asIntOf,IntKind.wrap_i64]
  ·
   have hbz:m*i.bytes≤281474976710656:=by rw[Nat.zero_add] at hb;omega
   have hr:=Lib.run_append_nil_zeros (P:=P) w t tn ty' e i z .i64 kn ht htn hi hz m (by omega) (by omega) (by omega) hbz
   have hnw':Builtin.zeroCells z.cells m=news.toArray:=by rw[← hnw]
   rw[hnw'] at hr
   refine⟨_,_,hr,.inr (.inr ⟨grownCap w m 0 e,_,by rw[Nat.zero_add],rfl,by rw[Nat.zero_add];exact grownCap_ge ..,grownCap_le_maxLen _ _ _ _ (by omega),?_,?_,?_,?_⟩)⟩
   ·
    have:=grownCap_ge w m 0 e
    simp only[Array.size_append,List.size_toArray,size_zeroCells,hnl,hzc,← Nat.add_mul]
    congr 1;omega
   ·
    intro j v hj
    rw[Array.getElem?_append] at hj
    split at hj
    ·
     exact hget (by simpa using hj)
    ·
     exact hzr _ _ _ hj
   ·
    intro q hq;simp at hq
   ·
    intro i' j y v hy hj hv
    have hyl:i'<m:=by have:=qbO hy;rw[List.length_replicate] at this;exact this
    rw[Nat.zero_add,Array.getElem?_append,if_pos (by simp[hnl];exact qel hyl hj)] at hv
    exact hrep i' j y v hy hj (by simpa using hv)
 ·
  by_cases hroom:n+m≤cap
  ·
   have hr:=q4K (P:=P) (ty':=ty') ht htn hi hz hh hnw (by rw[hnl,hsz]) hnone hroom (by rw[hsz];exact hcs) (by omega) (Nat.le_trans (Nat.mul_le_mul_right _ (Nat.le_add_left m n)) (Nat.le_trans hb (by decide)))
   rw[hsz] at hr
   have hfit:n*szOf c+news.length≤cur.size:=by rw[hnl,← Nat.add_mul];exact Nat.le_trans (Nat.mul_le_mul_right _ hroom) hcs
   refine⟨_,_,hr,.inr (.inl ⟨b,cur,e',cap,_,rfl,hh,rfl,rfl,hroom,hcm,?_,?_,?_,?_,?_⟩)⟩
   ·
    exact hcs
   ·
    simp;omega
   ·
    intro j v hj
    rw[qaQ _ _ _ hfit] at hj
    split at hj
    ·
     exact hget hj
    ·
     exact hcone _ _ hj
   ·
    intro q hq
    rw[qaQ _ _ _ hfit,if_neg (by omega)]
   ·
    intro i' j y v hy hj hv
    have hyl:i'<m:=by have:=qbO hy;rw[List.length_replicate] at this;exact this
    have hlt:=qel (cap:=m) hyl hj
    rw[qaQ _ _ _ hfit,if_pos (by rw[hnl,Nat.add_mul];omega)] at hv
    refine hrep i' j y v hy hj ?_
    rw[← hv];congr 1;rw[Nat.add_mul];omega
  ·
   have hlt:∀ q,q<n*szOf c→q<cur.size:=fun q hq=>by
    exact Nat.lt_of_lt_of_le hq (Nat.le_trans (Nat.mul_le_mul_right _ hn) hcs)
   have hold:∀ j v,(tab (fun q=>cur.getD q undef) (n*szOf c))[j]? = some v→w.cell? ((⟨b,0,none⟩:Addr).add j)=some v:=fun j v hj=>by
    obtain⟨h1,rfl⟩:=qhT hj
    rw[qaV,Nat.zero_add,qbV w hh]
    exact qar (hlt j h1)
   have hfc:(Builtin.firstCells i.size n (.slice (some ⟨b,0,none⟩) n cap)).run P w.drew=.ok (tab (fun q=>cur.getD q undef) (n*szOf c)).toArray w.drew :=
    run_firstCells_some (P:=P) w.drew i.size n _ n cap _ (by rw[qaX,hsz]) hold
   have hmb:m*i.bytes≤(n+m)*i.bytes:=Nat.mul_le_mul_right _ (by omega)
   have hr:=Lib.run_append_grow_zeros (P:=P) w t tn ty' e i z .i64 kn ht htn hi hz (some ⟨b,0,none⟩) n cap (tab (fun q=>cur.getD q undef) (n*szOf c)) hfc m (by omega) (by omega) (by omega) (by omega) (by omega) (growslice_fits (by omega) hb)
   have hnw':Builtin.zeroCells z.cells m=news.toArray:=by rw[← hnw]
   rw[hnw'] at hr
   have hge:=grownCap_ge w (n+m) cap e
   refine⟨_,_,hr,.inr (.inr ⟨grownCap w (n+m) cap e,_,rfl,rfl,hge,grownCap_le_maxLen _ _ _ _ hml,?_,?_,?_,?_⟩)⟩
   ·
    simp only[Array.size_append,List.size_toArray,size_zeroCells,hnl,hzc,qaX,← Nat.add_mul]
    congr 1;omega
   ·
    intro j v hj
    rw[Array.getElem?_append] at hj
    split at hj
    ·
     rw[Array.getElem?_append] at hj
     split at hj
     ·
      have hj':(tab (fun q=>cur.getD q undef) (n*szOf c))[j]? = some v:=by simpa using hj
      obtain⟨h1,rfl⟩:=qhT hj'
      exact hcone _ _ (qar (hlt j h1))
     ·
      exact hget (by simpa using hj)
    ·
     exact hzr _ _ _ hj
   ·
    intro q hq b2 cur2 e2 hb2 hh2
    simp only[Option.some.injEq] at hb2
    subst hb2
    rw[hh] at hh2
    simp only[Option.some.injEq,Obj.cells.injEq] at hh2
    obtain⟨rfl,rfl,-⟩:=hh2
    rw[Array.getElem?_append,if_pos (by simp[qaX];omega),Array.getElem?_append,if_pos (by simp[qaX];exact hq)]
    have:=tab_at (f:=fun q=>cur.getD q undef) hq
    rw[List.getElem?_toArray,this]
    exact(qar (hlt q hq)).symm
   ·
    intro i' j y v hy hj hv
    have hyl:i'<m:=by have:=qbO hy;rw[List.length_replicate] at this;exact this
    have hlt:=qel (cap:=m) hyl hj
    rw[Array.getElem?_append,if_pos (by simp[qaX,hnl,Nat.add_mul];omega),Array.getElem?_append,if_neg (by simp[qaX,Nat.add_mul];omega)] at hv
    refine hrep i' j y v hy hj ?_
    have e9:(n+i')*szOf c+j-(tab (fun q=>cur.getD q undef) (n*szOf c)).toArray.size=i'*szOf c+j:=by
     simp[qaX,Nat.add_mul];omega
    rw[e9] at hv
    simpa using hv
def qsd (P:Program)(z:Value)(c:Nat)(w:World)(im:Nat→Prop)(t:TypeId)(ts:Array TypeId)(u:Value)(m:Nat)(ys:List (ty c)):Prop :=
 (ts=#[t,t]∧q07 c w im u m ys)∨∃ tn kn,∃ x:ty c,ts=#[t,tn]∧P.underlying tn=some (.int kn)∧u=.int .i64 m∧ys=List.replicate m x∧∀ j v,j<szOf c→z.cells[j]? = some v→Rep w im qai v (nth (enc c x) j)
theorem qsd.len {P:Program}{z:Value}{c:Nat}{t:TypeId}{ts:Array TypeId}{u:Value}{m:Nat}{ys:List (ty c)}(h:qsd P z c w im t ts u m ys):ys.length=m:=by
 rcases h with ⟨-,h⟩|⟨_,_,x,_,_,_,rfl,_⟩
 ·
  rcases h with ⟨_,rfl,rfl⟩|⟨_,_,rfl,rfl⟩|⟨_,_,_,_,_,h,_⟩
  ·
   rfl
  ·
   rfl
  ·
   exact h
 ·
  simp
theorem q6E {P:Program} {t e:Nat} {ty':TypeId} {i:TypeInfo} {z:Value} {c:Nat} (ht:P.underlying t=some (.slice e)) (hi:P.info? e=some i) (hz:i.zero=some z) (hsz:i.size=szOf c) (hpos:0<szOf c)
  (hzc:z.cells.size=szOf c) (hzone:∀ (j:Nat) (v:Value),z.cells[j]? = some v→v.oneCell'=true)
  {sv xv:Value} {n m:Nat} {bo:Option Nat} {ys:List (ty c)} (hd:DstOK c w sv n bo) {ts:Array TypeId} (hs:qsd P z c w im t ts xv m ys) (hb:(n+m)*i.bytes≤140737488355328) (hml:n+m≤maxLen) :
  ∃ v' w',(Builtin.append_ ts ty' #[sv,xv]).run P w=.ok v' w' ∧
   ((n+m=0∧bo=none∧v'=.slice none 0 0∧w'=w) ∨
   (∃ b cur e' cap cur',bo=some b∧w.heap[b]? = some (.cells cur e' (0,0))∧v'=.slice (some ⟨b,0,none⟩) (n+m) cap∧w'=w.setRow b cur'∧n+m≤cap∧cap≤maxLen∧cap*szOf c≤cur.size∧cur'.size=cur.size ∧
     (∀ (j:Nat) (v:Value),cur'[j]? = some v→v.oneCell'=true)∧(∀ q,q<n*szOf c→cur'[q]? = cur[q]?) ∧
     (∀ i j y v,ys[i]? = some y→j<szOf c→cur'[(n+i)*szOf c+j]? = some v→Rep w im qai v (nth (enc c y) j))) ∨
   (∃ cap cur',v'=.slice (some ⟨w.heap.size,0,none⟩) (n+m) cap∧w'=w.drew.alloc (.cells cur' e)∧n+m≤cap∧cap≤maxLen∧cur'.size=cap*szOf c ∧
     (∀ (j:Nat) (v:Value),cur'[j]? = some v→v.oneCell'=true)∧(∀ q,q<n*szOf c→∀ b cur e',bo=some b→w.heap[b]? = some (.cells cur e' (0,0))→cur'[q]? = cur[q]?) ∧
     (∀ i j y v,ys[i]? = some y→j<szOf c→cur'[(n+i)*szOf c+j]? = some v→Rep w im qai v (nth (enc c y) j)))):=by
 rcases hs with ⟨rfl,hs⟩|⟨tn,kn,x,rfl,htn,rfl,rfl,hx⟩
 ·
  exact q4J ht hi hz hsz hpos hzc hzone hd hs hb hml
 ·
  exact zero_run ht htn hi hz hsz hpos hzc hzone hd hx hb hml
end
section
variable {w0 : World} {bor : Bor} {im0 im : Nat → Prop} {ρ : Ids} {sl : List AV} {gs : List (Nat × Nat × Bool)} {L : Nat → Option Blk} {σ : AS} {a : Act} {w : World}
theorem St.scratch (h:St w0 bor im0 im ρ sl gs L a w) {b:Nat} {w':World} (hkeep:∀ x,x≠b→w'.heap[x]? = w.heap[x]?) (hshape:w'.shape? b=w.shape? b) (hb:¬ im b) (hρ:∀ i m,ρ i≠some (some b,m)) (hown:w0.heap.size≤b∨bor.mem b)
  (hos:w'.os=w.os) (ht:w'.tape=w.tape) (ho:w'.output=w.output) (hsz:w.heap.size≤w'.heap.size):St w0 bor im0 im ρ sl gs L a w':=by
 have h1:∀ x,im x→w'.heap[x]? = w.heap[x]?:=fun x hx=>hkeep x (by rintro rfl;exact hb hx)
 have h2:∀ j x m',ρ j=some (some x,m')→w'.shape? x=w.shape? x:=fun j x m' hx=>qbj (hkeep x (by rintro rfl;exact hρ _ _ hx))
 exact{h with
  slot:=fun j v hv=>by
   have hs:=h.slot j v hv
   unfold SRep at hs ⊢
   split
   ·
    rename_i hg;rw[hg] at hs;exact hs.stable h1 (fun _ h=>h) (fun _ _ h=>h) h2
   ·
    rename_i tc wt hg
    rw[hg] at hs
    exact⟨fun e=>(hs.1 e).stable h1 (fun _ h=>h) (fun _ _ h=>h) h2,hs.2⟩
  blk:=fun j b' hb'=>by
   obtain⟨ob,h3,h4⟩:=h.blk j b' hb'
   refine⟨ob,h3,h4.stable h1 (fun _ h=>h) (fun _ _ h=>h) h2 (fun x hx=>hkeep x ?_)⟩
   rintro rfl
   obtain⟨o1,o2⟩:=ob
   dsimp only at hx
   subst hx
   exact hρ _ _ h3
  imlt:=fun b hb=>Nat.lt_of_lt_of_le (h.imlt b hb) hsz
  os:=hos.trans h.os
  tape:=ht.trans h.tape
  output:=ho.trans h.output
  size:=Nat.le_trans h.size hsz
  shp:=fun x hx=>by
   by_cases e:x=b
   ·
    subst e;exact hshape.trans (h.shp x hx)
   ·
    exact(qbj (hkeep x e)).trans (h.shp x hx)
  frame:=fun x hx hn=>by
   refine(hkeep x ?_).trans (h.frame x hx hn)
   rintro rfl
   rcases hown with h5|h5
   ·
    omega
   ·
    exact hn h5}
theorem SA.regrow (h:SA w0 bor im0 im ρ σ a w) {i c:Nat} {xs nx:List (ty c)} {ob:Option Nat×Nat} (hρ:ρ i=some ob) (hl:lget σ.locs i=some (.row c xs))
  {w':World} {ob':Option Nat×Nat} (hst:St w0 bor im0 im (upd ρ i none) (qbI i σ.slots) σ.gs (fun j=>if j=i then none else (lget σ.locs j).map (Blk.map (qbI i))) a w')
  (hge:900≤i) (hB:BRep w' im qai ob' (.row c nx)) (hnew:∀ b,ob'.1=some b→¬ im b∧(∀ j m,upd ρ i none j≠some (some b,m))∧(w0.heap.size≤b∨bor.mem b)) :
  SA w0 bor im0 im (upd (upd ρ i none) i (some ob')) {(σ.kill i) with locs:=lset (σ.kill i).locs i (.row c nx)} a w':=by
 have h1:=hst.add (id:=i) (by simp) hge (blk:=.row c nx) (ob:=ob') (hB.closed:BRep w' im (upd ρ i none) ob' (.row c nx)) hnew
 have hlk:lget (lmap (qbI i) σ.locs) i=some (.row c xs):=by rw[qbh,hl];rfl
 refine⟨?_,(h.uniq.lmap _).lset _ _⟩
 have e:lget (lset (lmap (qbI i) σ.locs) i (.row c nx))=upd (fun j=>if j=i then none else (lget σ.locs j).map (Blk.map (qbI i))) i (some (.row c nx)):=by
  funext j
  rw[qcK hlk]
  unfold upd
  by_cases hj:j=i
  ·
   simp[hj]
  ·
   simp[hj,qbh]
 show St w0 bor im0 im _ (qbI i σ.slots) σ.gs (lget (lset (lmap (qbI i) σ.locs) i (.row c nx))) a w'
 rw[e]
 exact h1
theorem src_len {c:Nat}{u:Value}{m:Nat}{ys:List (ty c)}(h:q07 c w im u m ys):ys.length=m:=by
 rcases h with ⟨_,rfl,rfl⟩|⟨_,_,rfl,rfl⟩|⟨_,_,_,_,_,h,_⟩
 ·
  rfl
 ·
  rfl
 ·
  exact h
theorem q6F {c:Nat}{u:Value}{av:AV}{m:Nat}{ys:List (ty c)}(h:q07 c w im u m ys)(hr:Rep w im ρ u av)(hx:(∃ zs:List (ty c),av=.sl c zs)∨∃ i o n,av=.row c i o n):m≤maxLen:=by
 rcases h with ⟨_,rfl,rfl⟩|⟨_,_,rfl,rfl⟩|⟨b,off,cap,f,rfl,hy,_⟩
 ·
  exact Nat.zero_le _
 ·
  exact Nat.zero_le _
 ·
  rcases hx with ⟨zs,rfl⟩|⟨i,o,n,rfl⟩
  ·
   cases hr with
   |sl hb hn hcap hm vals hcell hone hrep=>omega
   |emp=>exact Nat.zero_le _
  ·
   cases hr with
   |row h hle ho hn hm hs=>omega
   |rowE=>exact Nat.zero_le _
theorem qmT {env:Env} (h:SA w0 bor im0 im ρ σ a w) {o:Oper} {c:Call} (ho:o.op=.call c) (hc:c.callee=.builtin .append) {t:TypeId} {ts:Array TypeId} (hts:c.argTypes=ts) {e:TypeId} (ht:env.P.underlying t=some (.slice e))
  {cd:Nat} (hso:qbu env.P e cd=true) {z:List AV} (hz:qbt env.P e=some z) (hzl:z.length=szOf cd) {x1 x2:Operand} (hargs:c.args=#[x1,x2]) (h1:a.eval x1=.slice none 0 0)
  {m:Nat} {ys:List (ty cd)} (hs:∀ zv:Value,CRep w im ρ zv.cells z→qsd env.P zv cd w im t ts (a.eval x2) m ys) (hml:m≤maxLen) (hb:m*env.P.bytesOf e≤140737488355328)
  {id:Nat} (hid:qb8 σ.locs id=true) (hcl:σ.clash o.dst=false) {k:AS→Prop} {next:Act→World→Prop} {Q:Exit→Act→World→Prop}
  (hv:k ((σ.new id (.row cd ys)).put o.dst none (.row cd id 0 m))) (hn:Then (qb9 env) w o w0 bor im0 k next):o.wp env.P a w next Q:=by
 obtain⟨i,hi,hsz,hpos⟩:=qaw hso
 obtain⟨zv,hzr,hzc⟩:=qdJ (w:=w) (im:=im) (ρ:=ρ) hz
 have hzi:i.zero=some zv:=by
  simp only[zeroValue,typeInfo,Sem.run_bind,run_program,Result.andThen_ok,hi,Sem.run_pure] at hzr
  cases hzz:i.zero with
  |none=>rw[hzz] at hzr;simp at hzr
  |some v=>rw[hzz] at hzr;simp at hzr;rw[hzr]
 have hby:env.P.bytesOf e=i.bytes:=by simp[Program.bytesOf,hi]
 rw[hby] at hb
 obtain⟨v',w',hr,hout⟩:=q6E (P:=env.P) (ty':=o.type) ht hi hzi hsz hpos (by rw[hzc.1,hzl]) hzc.2.1 (sv:=.slice none 0 0) (n:=0) (bo:=none) (.inl ⟨rfl,rfl,rfl⟩) (hs zv hzc) (by rw[Nat.zero_add];exact hb) (by rw[Nat.zero_add];exact hml)
 have hrun:(execOp a.eval o).run env.P w=.ok (.value v') w':=by
  simp only[execOp,ho,resolve,hc,hargs,hts,Sem.run_bind,Sem.run_pure,Result.andThen_ok,invoke,builtin,List.map_toArray,List.map_cons,List.map_nil,h1,hr]
 have hyl:=(hs zv hzc).len
 rcases hout with ⟨h0,-,hv',hw'⟩|⟨b,cur,e',cap,cur',hb',-⟩|⟨cap,cur',rfl,rfl,hge,hcm,hcs,hone,-,hrep⟩
 ·
  rw[hw',hv'] at hrun
  have hm0:m=0:=by omega
  subst hm0
  have:ys=[]:=List.eq_nil_of_length_eq_zero hyl
  subst this
  have hB:BRep w im ρ ((none,0):Option Nat×Nat) (.row cd []):=⟨rfl,.inl ⟨rfl,rfl⟩⟩
  have hst:=h.st.add (qaJ hid) (qbi hid) hB (fun b hb=>by cases hb)
  have hSA:SA w0 bor im0 im (upd ρ id (some (none,0))) (σ.new id (.row cd [])) a w:=by
   refine⟨?_,h.uniq.cons (qaJ hid) _⟩
   show St w0 bor im0 im _ σ.slots σ.gs (lget ((id,Blk.row cd [])::σ.locs)) a w
   rw[qdK];exact hst
  exact qaN hrun (hn _ _ _ _ _ hv (hSA.put hcl (.row0 (qbk _ _ _))) fun _=>Agr.refl w)
 ·
  cases hb'
 ·
  have hd:SA w0 bor im0 im ρ σ a w.drew:=⟨h.st.drew,h.uniq⟩
  have hB:BRep (w.drew.alloc (.cells cur' e)) im ρ (some w.drew.heap.size,ys.length) (.row cd ys):=by
   refine hd.row cap hcs (by omega) hcm hone (fun i' j y v hy hj hv'=>?_) e
   have:=hrep i' j y v hy hj (by rw[Nat.zero_add];exact hv')
   exact this.stable (fun _ _=>rfl) (fun _ h=>h) (fun _ _ h=>h) (fun _ _ _ _=>rfl)
  have h2:=hd.new (qaJ hid) (qbi hid) hB
  refine qaN hrun (hn _ _ _ _ _ hv (h2.put hcl ?_) fun _=>.of_heap (by rw[show w.heap.size=w.drew.heap.size from rfl];simp) fun b hb=>RowKit.Below.heap_alloc w.drew _ b hb)
  rw[Nat.zero_add]
  refine .row (x:=0) (qbk _ _ _) (by omega) (by simp) (by omega) hcm (e:=e) ?_
  have:=qf6 w.drew cur' e
  rw[hcs] at this
  rw[Nat.zero_add]
  exact this
theorem qmU {env:Env} (h:SA w0 bor im0 im ρ σ a w) {o:Oper} {c:Call} (ho:o.op=.call c) (hc:c.callee=.builtin .append) (hkb:qcH (qb9 env) o.op=false) {t:TypeId} {ts:Array TypeId} (hts:c.argTypes=ts) {e:TypeId} (ht:env.P.underlying t=some (.slice e))
  {cd:Nat} (hso:qbu env.P e cd=true) {z:List AV} (hz:qbt env.P e=some z) (hzl:z.length=szOf cd) {x1 x2:Operand} (hargs:c.args=#[x1,x2])
  {i n:Nat} (hge9:900≤i) {xs:List (ty cd)} (h1:Rep w im ρ (a.eval x1) (.row cd i 0 n)) (hl:lget σ.locs i=some (.row cd xs))
  {m:Nat} {ys:List (ty cd)} (hs:∀ zv:Value,CRep w im ρ zv.cells z→qsd env.P zv cd w im t ts (a.eval x2) m ys) (hb:(n+m)*env.P.bytesOf e≤140737488355328) (hml:n+m≤maxLen)
  (hcl:σ.clash o.dst=false) {k:AS→Prop} {next:Act→World→Prop} {Q:Exit→Act→World→Prop}
  (hv:k (AS.put {(σ.kill i) with locs:=lset (σ.kill i).locs i (.row cd (xs.take n++ys))} o.dst none (.row cd i 0 (n+m)))) (hn:Then (qb9 env) w o w0 bor im0 k next):o.wp env.P a w next Q:=by
 obtain⟨ti,hi,hsz,hpos⟩:=qaw hso
 obtain⟨zv,hzr,hzc⟩:=qdJ (w:=w) (im:=im) (ρ:=ρ) hz
 have hzi:ti.zero=some zv:=by
  simp only[zeroValue,typeInfo,Sem.run_bind,run_program,Result.andThen_ok,hi,Sem.run_pure] at hzr
  cases hzz:ti.zero with
  |none=>rw[hzz] at hzr;simp at hzr
  |some v=>rw[hzz] at hzr;simp at hzr;rw[hzr]
 have hby:env.P.bytesOf e=ti.bytes:=by simp[Program.bytesOf,hi]
 rw[hby] at hb
 obtain⟨ob,hρ,hB⟩:=h.st.blk i _ hl
 obtain⟨hd,hnx⟩:=dst_row h1 hρ hB
 obtain⟨v',w',hr,hout⟩:=q6E (P:=env.P) (ty':=o.type) ht hi hzi hsz hpos (by rw[hzc.1,hzl]) hzc.2.1 hd (hs zv hzc) hb hml
 have hrun:(execOp a.eval o).run env.P w=.ok (.value v') w':=by
  simp only[execOp,ho,resolve,hc,hargs,hts,Sem.run_bind,Sem.run_pure,Result.andThen_ok,invoke,builtin,List.map_toArray,List.map_cons,List.map_nil,hr]
 have hyl:=(hs zv hzc).len
 have hdel:=h.st.del i
 have hcl':∀ L',(AS.clash {(σ.kill i) with locs:=L'} o.dst)=false:=fun _=>hcl
 have hnx':(xs.take n).length=n:=by simp;omega
 have hels:∀ {cur':Array Value} {w':World},(∀ {v av},Rep w im qai v av→Rep w' im qai v av) →
   (∀ q,q<n*szOf cd→∀ b cur e',ob.1=some b→w.heap[b]? = some (.cells cur e' (0,0))→cur'[q]? = cur[q]?) →
   (∀ i j y v,ys[i]? = some y→j<szOf cd→cur'[(n+i)*szOf cd+j]? = some v→Rep w im qai v (nth (enc cd y) j)) →
   ∀ (i' j:Nat) (x:ty cd) (v:Value),(xs.take n++ys)[i']? = some x→j<szOf cd→cur'[i'*szOf cd+j]? = some v→Rep w' im qai v (nth (enc cd x) j):=by
  intro cur' w' hst hold hnew i' j x v hx hj hv'
  by_cases hin:i'<n
  ·
   rw[List.getElem?_append_left (by omega),List.getElem?_take,if_pos hin] at hx
   obtain⟨hk,hB⟩:=hB
   rcases hB with ⟨g1,rfl⟩|⟨b,cur,e',cap,g1,hh,hsz',hcap,hm',hone,hrep⟩
   ·
    simp at hx
   ·
    rw[hold _ (qel hin hj) b cur e' g1 hh] at hv'
    exact hst (hrep i' j x v hx hj hv')
  ·
   rw[List.getElem?_append_right (by omega),hnx'] at hx
   have e1:i'=n+(i'-n):=by omega
   rw[e1] at hv'
   exact hst (hnew _ j x v hx hj hv')
 rcases hout with ⟨h0,hbo,hv',hw'⟩|⟨b,cur,e',cap,cur',hbo,hh,rfl,rfl,hge,hcm,hcs,hss,hone,hold,hrep⟩|⟨cap,cur',rfl,rfl,hge,hcm,hcs,hone,hold,hrep⟩
 ·
  rw[hw',hv'] at hrun
  have hn0:n=0:=by omega
  have hm0:m=0:=by omega
  subst hn0;subst hm0
  have:ys=[]:=List.eq_nil_of_length_eq_zero hyl
  subst this
  have h2:=h.regrow hρ hl (nx:=xs.take 0++[]) (ob':=(none,0)) hdel hge9 ⟨rfl,.inl ⟨rfl,rfl⟩⟩ (fun b hb=>by cases hb)
  exact qaN hrun (hn _ _ _ _ _ hv (h2.put (hcl' _) (.row0 (qbk _ _ _))) fun e=>by rw[hkb] at e;cases e)
 ·
  obtain⟨o1,o2⟩:=ob
  dsimp only at hbo
  subst hbo
  have hni:¬ im b:=h.st.notim i b _ hρ
  have hnρ:∀ j m',upd ρ i none j≠some (some b,m'):=fun j m' hj=>by
   unfold upd at hj
   split at hj
   ·
    cases hj
   ·
    rename_i hne;exact hne (h.st.inj j i b _ _ hj hρ)
  have hown:=h.st.own i b _ hρ
  have hkeep:∀ y,y≠b→(w.setRow b cur').heap[y]? = w.heap[y]?:=fun y hy=>setRow_other w b y cur' hy
  have hst2:=hdel.scratch (w':=w.setRow b cur') hkeep (qdh hh hss) hni hnρ hown rfl rfl rfl (by simp)
  have him:∀ y,im y→(w.setRow b cur').heap[y]? = w.heap[y]?:=fun y hy=>hkeep y (by rintro rfl;exact hni hy)
  obtain⟨cap0,hc0,hm0⟩:∃ cap0,cur.size=cap0*szOf cd∧cap0≤maxLen:=by
   obtain⟨-,hB2⟩:=hB
   rcases hB2 with ⟨g1,-⟩|⟨b2,cur2,e2,cap2,g1,hh2,hsz2,hcap2,hm2,-⟩
   ·
    cases g1
   ·
    simp only[Option.some.injEq] at g1
    subst g1
    rw[hh] at hh2
    simp only[Option.some.injEq,Obj.cells.injEq] at hh2
    obtain⟨rfl,-⟩:=hh2
    exact⟨cap2,hsz2,hm2⟩
  have hcc:cap≤cap0:=by
   rw[hc0] at hcs
   exact Nat.le_of_mul_le_mul_right hcs (by omega)
  have h2:=h.regrow hρ hl (nx:=xs.take n++ys) (ob':=(some b,n+m)) hst2 hge9
   ⟨by
     simp;omega,.inr ⟨b,cur',e',cap0,rfl,setRow_heap w b cur cur' e' _ hh,hss.trans hc0,by simp;omega,hm0,hone,hels (fun hr=>hr.stable him (fun _ h=>h) (fun _ _ h=>h) (fun _ _ _ hi=>by simp[qai] at hi)) (fun q hq b2 cur2 e2 hb2 hh2=>by
     simp only[Option.some.injEq] at hb2
     subst hb2
     rw[hh] at hh2
     simp only[Option.some.injEq,Obj.cells.injEq] at hh2
     obtain⟨rfl,rfl,-⟩:=hh2
     exact hold q hq) hrep⟩⟩
   (fun b2 hb2=>by simp only[Option.some.injEq] at hb2;subst hb2;exact⟨hni,hnρ,hown⟩)
  refine qaN hrun (hn _ _ _ _ _ hv (h2.put (hcl' _) ?_) fun e=>by rw[hkb] at e;cases e)
  refine .row (x:=cap0-cap) (qbk _ _ _) (by omega) (by simp) hge hcm (e:=e') ?_
  rw[qdh hh hss,show 0+cap+(cap0-cap)=cap0 by omega,← hc0]
  simp[World.shape?,hh]
 ·
  have hst2:=(hdel.drew).world (w':=w.drew.alloc (.cells cur' e)) (fun b hb=>RowKit.Below.heap_alloc w.drew _ b hb) rfl rfl rfl (by simp)
  have him:∀ y,im y→(w.drew.alloc (.cells cur' e)).heap[y]? = w.heap[y]?:=fun y hy=>RowKit.Below.heap_alloc w.drew _ y (h.st.imlt y hy)
  have h2:=h.regrow hρ hl (nx:=xs.take n++ys) (ob':=(some w.heap.size,n+m)) hst2 hge9
   ⟨by simp;omega,.inr ⟨w.heap.size,cur',e,cap,rfl,qoo w.drew _,hcs,by simp;omega,hcm,hone,hels (fun hr=>hr.stable him (fun _ h=>h) (fun _ _ h=>h) (fun _ _ _ hi=>by simp[qai] at hi)) hold hrep⟩⟩
   (fun b2 hb2=>by
    simp only[Option.some.injEq] at hb2
    subst hb2
    refine⟨fun hb=>?_,fun j m' hj=>?_,.inl h.st.size⟩
    ·
     have:=h.st.imlt _ hb;omega
    ·
     have:=hdel.rholt hj;omega)
  refine qaN hrun (hn _ _ _ _ _ hv (h2.put (hcl' _) ?_) fun e=>by rw[hkb] at e;cases e)
  refine .row (x:=0) (qbk _ _ _) (by omega) (by simp) hge hcm (e:=e) ?_
  have:=qf6 w.drew cur' e
  rw[hcs] at this
  rw[Nat.zero_add]
  exact this
theorem qxc {c:Nat}(hpos:0<szOf c)(h:SA w0 bor im0 im ρ σ a w){u:Value}{av:AV}{m:Nat}{ys:List (ty c)}(hr:Rep w im ρ u av)(hs:q0v σ.locs c av=some (m,ys)):q07 c w im u m ys∧m≤maxLen:=by
 unfold q0v at hs
 split at hs
 ·
  simp only[Option.some.injEq,Prod.mk.injEq] at hs
  obtain⟨rfl,rfl⟩:=hs
  exact⟨.inl ⟨hr.inv_nilsl,rfl,rfl⟩,Nat.zero_le _⟩
 ·
  rename_i c' zs
  split at hs
  ·
   rename_i hc heq
   subst hc
   simp only[Option.some.injEq,Prod.mk.injEq] at hs
   obtain⟨rfl,rfl⟩:=hs
   have:=src_sl hpos hr
   exact⟨this,q6F this hr (.inl ⟨zs,rfl⟩)⟩
  ·
   cases hs
 ·
  rename_i c' j o' m'
  split at hs
  ·
   rename_i c2 zs hl
   split at hs
   ·
    rename_i hc hcc heq
    have hcc:=nbeq hcc
    subst hcc
    subst hc
    simp only[Option.some.injEq,Prod.mk.injEq] at hs
    obtain⟨rfl,rfl⟩:=hs
    obtain⟨ob,h1,h2⟩:=h.st.blk j _ hl
    have:=src_row hpos hr h1 h2
    exact⟨this,q6F this hr (.inr ⟨j,o',m',rfl⟩)⟩
   ·
    cases hs
  ·
   cases hs
 ·
  cases hs
theorem qiR {env:Env} (h:SA w0 bor im0 im ρ σ a w) {o:Oper} {c:Call} (ho:o.op=.call c) (hc:c.callee=.builtin .append) {g:Gd} (hg:GdOK a g) (hcl:σ.clash o.dst=false)
  {t:TypeId} {ts:Array TypeId} (hts:c.argTypes=ts) {e:TypeId} (he:qhO env.P t=some e) (c1:qbu env.P e (env.code e)=true) (c2:0<env.P.bytesOf e) {z:List AV} (hz:qbt env.P e=some z) (c3:z.length=szOf (env.code e))
  {x1 x2:Operand} (hargs:c.args=#[x1,x2]) {m:Nat} {ys:List (ty (env.code e))} (hsrc:∀ zv:Value,CRep w im ρ zv.cells z→qsd env.P zv (env.code e) w im t ts (a.eval x2) m ys) (hmm:m*env.P.bytesOf e≤140737488355328→m≤maxLen)
  {id:Nat} {k:AS→Prop} {next:Act→World→Prop} {Q:Exit→Act→World→Prop}
  (hv:qk3 env σ o.dst e id m ys (σ.ev g x1) k) (hn:Then (qb9 env) w o w0 bor im0 k next):o.wp env.P a w next Q:=by
 have r1:=h.ev hg x1
 unfold qk3 at hv
 split at hv
 ·
  rename_i hx1
  rw[hx1] at r1
  split at hv
  ·
   rename_i hab
   exact qmT h ho hc hts (qgo he) c1 hz c3 hargs r1.inv_nilsl hsrc (hmm (qcL hv).1) (qcL hv).1 hab hcl (qni (qcL hv).2) hn
  ·
   exact hv.elim
 ·
  rename_i cc i n hx1
  rw[hx1] at r1
  split at hv
  ·
   rename_i c' xs hl
   split at hv
   ·
    rename_i hce hcc heq
    simp only[Bool.and_eq_true] at hcc
    have hge9:=Nat.le_of_ble_eq_true hcc.2
    have hcc:=nbeq hcc.1
    subst hcc
    clear heq
    generalize hcd:env.code e=cd at *
    subst hce
    have hml:n+m≤maxLen:=by
     have h1:(n+m)*1≤(n+m)*env.P.bytesOf e:=Nat.mul_le_mul_left _ c2
     have:=(qcL hv).1
     unfold maxLen;omega
    have hkb:qcH (qb9 env) o.op=false:=by
     rw[ho]
     simp only[qcH,hc,hargs]
     unfold nilOps
     split
     ·
      rename_i e
      simp only[List.cons.injEq] at e
      rw[e.1] at hx1
      cases hx1
     ·
      rfl
    exact qmU h ho hc hkb hts (qgo he) c1 hz c3 hargs hge9 r1 hl hsrc (qcL hv).1 hml hcl (qni (qcL hv).2) hn
   ·
    exact hv.elim
  ·
   exact hv.elim
 ·
  exact hv.elim
theorem qxd {env:Env} (h:SA w0 bor im0 im ρ σ a w) {o:Oper} {c:Call} (ho:o.op=.call c) (hc:c.callee=.builtin .append) {g:Gd} (hg:GdOK a g) (hcl:σ.clash o.dst=false)
  {id:Nat} {k:AS→Prop} {next:Act→World→Prop} {Q:Exit→Act→World→Prop}
  (hv:qiE env σ g o.dst c id k) (hn:Then (qb9 env) w o w0 bor im0 k next):o.wp env.P a w next Q:=by
 unfold qiE at hv
 split at hv
 ·
  rename_i x1 x2 t t' hargs hts
  have hargs:c.args=#[x1,x2]:=by rw[← Array.toArray_toList (xs:=c.args),hargs]
  have hts:c.argTypes=#[t,t']:=by rw[← Array.toArray_toList (xs:=c.argTypes),hts]
  split at hv
  ·
   rename_i e he
   split at hv
   ·
    exact hv.elim
   ·
    rename_i hchk
    simp only[Bool.and_eq_true] at hchk
    obtain⟨⟨c1,c2⟩,c3⟩:=hchk
    have c2:0<env.P.bytesOf e:=by simpa [Nat.blt,Nat.succ_le_iff] using c2
    split at c3
    case h_2=>cases c3
    rename_i z hz
    have c3:=nbeq c3
    obtain⟨-,-,-,hpos⟩:=qaw c1
    have r2:=h.ev hg x2
    split at hv
    ·
     rename_i htt
     have htt:=nbeq htt
     subst htt
     split at hv
     ·
      exact hv.elim
     ·
      rename_i m ys hs
      obtain⟨hsrc,hmm⟩:=qxc hpos h r2 hs
      exact qiR h ho hc hg hcl hts he c1 c2 hz c3 hargs (fun _ _=>.inl ⟨rfl,hsrc⟩) (fun _=>hmm) hv hn
    ·
     split at hv
     ·
      rename_i kn n x htn hx2 hd
      rw[hx2] at r2
      obtain⟨e2,k2⟩:=r2.inv_int
      obtain⟨h0,hv⟩:=qcL hv
      rw[hz] at hd
      obtain⟨d1,d2⟩:=qhC (w:=w) (im:=im) (ρ:=ρ) _ _ x hd
      refine qiR h ho hc hg hcl hts he c1 c2 hz c3 hargs (fun zv hzc=>.inr ⟨t',kn,x,rfl,htn,?_,rfl,fun j v hj hv=>d2 j v hj (hzc.2.2 j v hv)⟩) (fun hb=>?_) hv hn
      ·
       rw[e2,Int.toNat_of_nonneg h0]
      ·
       have h1:n.toNat*1≤n.toNat*env.P.bytesOf e:=Nat.mul_le_mul_left _ c2
       unfold maxLen;omega
     ·
      exact hv.elim
  ·
   exact hv.elim
 ·
  exact hv.elim
theorem qxe:∀ {L:Locs} {i:Nat} {b:Blk},lget L i=some b→lset L i b=L
 | [],_,_,h=>by cases h
 |(j,x)::r,i,b,h=>by
  unfold lget at h
  unfold lset
  split at h
  ·
   rename_i e
   simp only[Option.some.injEq] at h
   subst h
   rfl
  ·
   rename_i e
   rw[qxe h]
theorem q08 {α:Type}(xs ys:List α)(o:Nat)(h:o+ys.length≤xs.length)(j:Nat):(xs.take o++ys++xs.drop (o+ys.length))[j]? = if o≤j∧j<o+ys.length then ys[j-o]? else xs[j]?:=by
 by_cases h1:j<o
 ·
  rw[if_neg (by omega),List.append_assoc,List.getElem?_append_left (by simp;omega),List.getElem?_take,if_pos h1]
 ·
  rw[List.append_assoc,List.getElem?_append_right (by simp;omega)]
  have e:(List.take o xs).length=o:=by simp;omega
  rw[e]
  by_cases h2:j<o+ys.length
  ·
   rw[if_pos ⟨by omega,h2⟩,List.getElem?_append_left (by omega)]
  ·
   rw[if_neg (by omega),List.getElem?_append_right (by omega),List.getElem?_drop]
   congr 1;omega
theorem q6G {c i o n:Nat}{u:Value}(h:Rep w im ρ u (.row c i o n)):(∃ d cap,u=.slice d 0 cap∧n=0)∨∃ b m cap,ρ i=some (some b,m)∧o+n≤m∧u=.slice (some ⟨b,o*szOf c,none⟩) n cap:=by
 cases h with
 |row0 h=>exact .inl ⟨_,_,rfl,rfl⟩
 |row h hle ho hn hm hs=>exact .inr ⟨_,_,_,h,hle,by rw[ho]⟩
 |rowE h ho hm=>exact .inl ⟨_,_,rfl,rfl⟩
theorem q4L {env:Env} (h:SA w0 bor im0 im ρ σ a w) {o:Oper} {c:Call} (ho:o.op=.call c) (hc:c.callee=.builtin .copy) {g:Gd} (hg:GdOK a g) (hcl:σ.clash o.dst=false)
  {k:AS→Prop} {next:Act→World→Prop} {Q:Exit→Act→World→Prop}
  (hv:qwP env σ g o.dst c k) (hn:Then (qb9 env) w o w0 bor im0 k next):o.wp env.P a w next Q:=by
 unfold qwP at hv
 split at hv
 ·
  rename_i x1 x2 t t' hargs hts
  have hargs:c.args=#[x1,x2]:=by rw[← Array.toArray_toList (xs:=c.args),hargs]
  have hts:c.argTypes=#[t,t']:=by rw[← Array.toArray_toList (xs:=c.argTypes),hts]
  split at hv
  ·
   rename_i e he
   have hu:=qgo he
   have r1:=h.ev hg x1
   have r2:=h.ev hg x2
   split at hv
   ·
    rename_i c1 i oo n hx1
    rw[hx1] at r1
    split at hv
    ·
     rename_i m ys c2 xs hchk hs hl
     simp only[Bool.and_eq_true] at hchk
     obtain⟨hone,hsz⟩:=hchk
     have hsz:=nbeq hsz
     have hinfo:(env.P.info? e).map (·.size)=some 1:=by
      unfold oneT at hone
      split at hone
      ·
       rename_i inf hi
       rw[hi]
       have:=nbeq hone
       simp[this]
      ·
       cases hone
     split at hv
     ·
      rename_i hcc _
      subst hcc
      dsimp only at hv
      have hv:=qsa (qni hv)
      obtain⟨hsrc,hmm⟩:=qxc (by omega) h r2 hs
      have hyl:=src_len hsrc
      obtain⟨ob,hρ,hB⟩:=h.st.blk i _ hl
      have hB0:=hB
      obtain⟨hlen,hB⟩:=hB
      have hkw:kwf .i64 ((Nat.min m n:Nat):Int):=by
       have:Nat.min m n≤m:=Nat.min_le_left _ _
       have hm2:m≤9223372036854775807:=Nat.le_trans hmm (by unfold maxLen;decide)
       unfold kwf
       refine⟨?_,?_⟩
       ·
        show (-9223372036854775808:Int)≤_;omega
       ·
        show _≤(9223372036854775807:Int);omega
      have hnext:∀ {w':World} {v:Value} {zs:List (ty c2)},k (AS.put ⟨σ.slots,σ.gs,lset σ.locs i (.row c2 zs)⟩ o.dst none (.int .i64 (Nat.min m n:Nat)))→v=goInt (Nat.min m n:Nat) →
        (execOp a.eval o).run env.P w=.ok (.value v) w'→SA w0 bor im0 im ρ ⟨σ.slots,σ.gs,lset σ.locs i (.row c2 zs)⟩ a w'→o.wp env.P a w next Q:=by
       intro w' v zs hk hvv hrun hst
       subst hvv
       exact qaN hrun (hn _ _ _ _ _ hk (hst.put hcl (.int hkw)) fun e=>by rw[ho] at e;simp only[qcH,hc] at e;cases e)
      have hexec:∀ {v:Value} {w':World},(Builtin.copy_ #[t,t'] o.type #[a.eval x1,a.eval x2]).run env.P w=.ok v w'→(execOp a.eval o).run env.P w=.ok (.value v) w':=by
       intro v w' hr
       simp only[execOp,ho,resolve,hc,hargs,hts,Sem.run_bind,Sem.run_pure,Result.andThen_ok,invoke,builtin,List.map_toArray,List.map_cons,List.map_nil,hr]
      rcases Nat.eq_zero_or_pos (Nat.min m n) with h0|hpos
      ·
       have hz:xs.take oo++ys.take (Nat.min m n)++xs.drop (oo+Nat.min m n)=xs:=by
        rw[h0];simp
       rw[hz] at hv
       refine hnext hv rfl (hexec (w':=w) ?_) (by rw[qxe hl];exact h)
       have hd:∃ d cap,a.eval x1=.slice d n cap:=by
        rcases q6G r1 with ⟨d,cap,e1,e2⟩|⟨b,m',cap,-,-,e1⟩
        ·
         exact⟨d,cap,by rw[e1,e2]⟩
        ·
         exact⟨_,cap,e1⟩
       obtain⟨d,cap,hd⟩:=hd
       have hs2:∃ d2 cap2,a.eval x2=.slice d2 m cap2:=by
        rcases hsrc with ⟨e1,e2,-⟩|⟨d2,e1,e2,-⟩|⟨b,off,cap2,f,e1,-⟩
        ·
         exact⟨none,0,by rw[e1,e2]⟩
        ·
         exact⟨some d2,0,by rw[e1,e2]⟩
        ·
         exact⟨_,_,e1⟩
       obtain⟨d2,cap2,hs2⟩:=hs2
       rw[hd,hs2,h0]
       exact run_copy_none w t t' o.type e d d2 n cap m cap2 hu hinfo h0
      ·
       have hn0:0<n:=Nat.lt_of_lt_of_le hpos (Nat.min_le_right _ _)
       have hm0:0<m:=Nat.lt_of_lt_of_le hpos (Nat.min_le_left _ _)
       have hmn:Nat.min m n≤n:=Nat.min_le_right _ _
       have hmm':Nat.min m n≤m:=Nat.min_le_left _ _
       rcases q6G r1 with ⟨d,cap,e1,e2⟩|⟨b,m',cap,e0,hle,e1⟩
       ·
        omega
       ·
        rcases hsrc with ⟨-,e2,-⟩|⟨d2,-,e2,-⟩|⟨b2,off,cap2,f,e2,hy,hcell,hone1,hrep⟩
        ·
         omega
        ·
         omega
        ·
         rw[hρ] at e0
         simp only[Option.some.injEq] at e0
         subst e0
         dsimp only at hlen hB
         rcases hB with ⟨hb,-⟩|⟨b',cur,e',cap',hb,hh,hcs,hcap,hmax,honec,hels⟩
         ·
          cases hb
         ·
          simp only[Option.some.injEq] at hb
          subst hb
          rw[hsz,Nat.mul_one] at e1 hcs
          generalize hq:Nat.min m n=q at *
          have hcl2:((List.range q).map f).length=q:=by simp
          have hrun:=run_copy_row (P:=env.P) w t t' o.type e b oo n cap ⟨b2,off,none⟩ m cap2 cur e' ((List.range q).map f) hu hinfo hh (by rw[hcl2,hq])
           (fun j v hj=>by
            rw[List.getElem?_map] at hj
            have hjq:j<q:=by
             rcases Nat.lt_or_ge j q with h1|h1
             ·
              exact h1
             ·
              rw[List.getElem?_eq_none (by simpa using h1)] at hj;cases hj
            rw[List.getElem?_range hjq] at hj
            simp only[Option.map_some,Option.some.injEq] at hj
            subst hj
            have hadd:(⟨b2,off,none⟩:Addr).add j=⟨b2,off+j,none⟩:=by unfold Addr.add;split<;>simp_all
            rw[hadd]
            exact hcell j (by rw[hsz];omega))
           (by rw[hcl2];omega)
           (fun v hv=>by
            obtain⟨j,hj,rfl⟩:=List.mem_map.1 hv
            exact hone1 j (by rw[hsz];have:=List.mem_range.1 hj;omega))
          rw[hcl2] at hrun
          have hfit:oo+((List.range q).map f).length≤cur.size:=by rw[hcl2];omega
          generalize hcur':(cur.toList.take oo++(List.range q).map f++cur.toList.drop (oo+q)).toArray=cur' at hrun
          have hget:∀ j,cur'[j]? = if oo≤j∧j<oo+q then ((List.range q).map f)[j-oo]? else cur[j]?:=fun j=>by
           have:=qaQ cur oo ((List.range q).map f) hfit j
           rw[hcl2] at this
           rw[← hcur'];exact this
          have hsz':cur'.size=cur.size:=by
           rw[← hcur']
           simp only[List.size_toArray,List.length_append,List.length_take,List.length_map,List.length_range,List.length_drop,Array.length_toList]
           omega
          have hyq:(ys.take q).length=q:=by rw[List.length_take];omega
          have hzl:(xs.take oo++ys.take q++xs.drop (oo+q)).length=xs.length:=by
           simp only[List.length_append,List.length_take,List.length_drop];omega
          have hzg:∀ j,(xs.take oo++ys.take q++xs.drop (oo+q))[j]? = if oo≤j∧j<oo+q then (ys.take q)[j-oo]? else xs[j]?:=fun j=>by
           have:=q08 xs (ys.take q) oo (by omega) j
           rw[hyq] at this;exact this
          have hst:=h.setBlk hρ hl hh hsz' (nb:=.row c2 (xs.take oo++ys.take q++xs.drop (oo+q))) (fun s1 s2 hh'=>by
           refine⟨by rw[hzl];exact hlen,.inr ⟨b,cur',e',cap',rfl,hh',by rw[hsz',hcs,hsz,Nat.mul_one],by rw[hzl];exact hcap,hmax,fun j v hj=>?_,fun i j x v hx hj hv=>?_⟩⟩
           ·
            rw[hget] at hj
            split at hj
            ·
             rename_i hr
             rw[List.getElem?_map,List.getElem?_range (by omega)] at hj
             simp only[Option.map_some,Option.some.injEq] at hj
             subst hj
             exact hone1 _ (by rw[hsz];omega)
            ·
             exact honec _ _ hj
           ·
            rw[hsz] at hj hv
            have hj0:j=0:=by omega
            subst hj0
            rw[Nat.mul_one,Nat.add_zero,hget] at hv
            rw[hzg] at hx
            refine s2 ?_
            split at hv
            ·
             rename_i hr
             rw[if_pos hr] at hx
             rw[List.getElem?_map,List.getElem?_range (by omega)] at hv
             simp only[Option.map_some,Option.some.injEq] at hv
             subst hv
             rw[List.getElem?_take,if_pos (by omega)] at hx
             have:=hrep (i-oo) 0 x hx (by omega)
             rw[hsz,Nat.mul_one,Nat.add_zero] at this
             exact this
            ·
             rename_i hr
             rw[if_neg hr] at hx
             exact hels i 0 x v hx (by omega) (by rw[hsz,Nat.mul_one,Nat.add_zero];exact hv))
          refine hnext hv rfl (hexec ?_) hst
          rw[e1,e2]
          exact hrun
     ·
      exact hv.elim
    ·
     exact hv.elim
   ·
    exact hv.elim
  ·
   exact hv.elim
 ·
  exact hv.elim
end
end Go.Eng
