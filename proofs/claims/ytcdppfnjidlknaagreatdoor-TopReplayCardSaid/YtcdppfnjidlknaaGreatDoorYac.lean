import Derived.Test.YtcdppfnjidlknaaGreatDoorYab
import Derived.OpenShut
set_option linter.unusedVariables false
set_option linter.unusedSimpArgs false
namespace Go.Eng
open Go
theorem q61 {k n}:kwf k n↔(Lit.int k n).wf=true:=by simp[kwf,Lit.wf]
theorem qei (k:IntKind)(n:Int):kwf k (k.wrap n):=q61.2 (wf_wrap k n)
theorem qdf (op k x y):kwf k (bits op k x y):=q61.2 (by first|exact wf_bits .. | exact wf_wrap ..)
theorem quF (k:IntKind):kwf k 0:=by cases k<;>exact⟨by decide,by decide⟩
theorem qoh {k:IntKind}{x n:Int}(h:kwf k x)(h1:0≤x→0≤n∧n≤x)(h2:x≤0→x≤n∧n≤0):kwf k n:=by
 have z:=quF k
 unfold kwf at *
 rcases Int.le_total 0 x with h0|h0
 ·
  have:=h1 h0;omega
 ·
  have:=h2 h0;omega
theorem kwf_tmod {k:IntKind}{x:Int}(y:Int)(h:kwf k x):kwf k (x.tmod y):=by
 refine qoh h (fun h0=>?_) (fun h0=>?_)
 ·
  exact⟨Int.tmod_nonneg y h0,by
   obtain⟨n,rfl⟩:=Int.eq_ofNat_of_zero_le h0
   rcases Int.le_total 0 y with h1|h1
   ·
    obtain⟨m,rfl⟩:=Int.eq_ofNat_of_zero_le h1
    have:=Nat.mod_le n m
    simp[Int.tmod];omega
   ·
    obtain⟨m,hm⟩:=Int.eq_ofNat_of_zero_le (show 0≤-y by omega)
    have hy:y = -(m:Int):=by omega
    subst hy
    rw[Int.tmod_neg]
    have:=Nat.mod_le n m
    simp[Int.tmod];omega⟩
 ·
  have hx:∃ n:Nat,x = -(n:Int):=by
   obtain⟨n,hn⟩:=Int.eq_ofNat_of_zero_le (show 0≤-x by omega)
   exact⟨n,by omega⟩
  obtain⟨n,rfl⟩:=hx
  rw[Int.neg_tmod]
  have h3:0≤(n:Int).tmod y∧(n:Int).tmod y≤n:=by
   refine⟨Int.tmod_nonneg y (by omega),?_⟩
   rcases Int.le_total 0 y with h1|h1
   ·
    obtain⟨m,rfl⟩:=Int.eq_ofNat_of_zero_le h1
    have:=Nat.mod_le n m
    simp[Int.tmod];omega
   ·
    obtain⟨m,hm⟩:=Int.eq_ofNat_of_zero_le (show 0≤-y by omega)
    have hy:y = -(m:Int):=by omega
    subst hy
    rw[Int.tmod_neg]
    have:=Nat.mod_le n m
    simp[Int.tmod];omega
  omega
theorem kwf_fdiv {k:IntKind}{x:Int}(n:Nat)(h:kwf k x):kwf k (x.fdiv (2 ^ n)):=by
 have hp:(0:Int)<2 ^ n:=by exact_mod_cast Nat.two_pow_pos n
 rw[Int.fdiv_eq_ediv_of_nonneg _ (Int.le_of_lt hp)]
 refine qoh h (fun h0=>⟨Int.ediv_nonneg h0 (Int.le_of_lt hp),?_⟩) (fun h0=>?_)
 ·
  exact Int.ediv_le_self _ h0
 ·
  refine⟨?_,?_⟩
  ·
   rw[Int.le_ediv_iff_mul_le hp]
   have:x*2 ^ n≤x*1:=Int.mul_le_mul_of_nonpos_left h0 (by omega:(1:Int)≤2 ^ n)
   omega
  ·
   exact Int.ediv_nonpos_of_nonpos_of_neg h0 (by omega)
def Agr (w w':World):Prop:=w.heap.size≤w'.heap.size∧∀ b,b<w.heap.size→(∀ o,w'.cell? ⟨b,o,none⟩=w.cell? ⟨b,o,none⟩)∧w'.shape? b=w.shape? b
theorem Agr.refl (w:World):Agr w w:=⟨Nat.le_refl _,fun _ _=>⟨fun _=>rfl,rfl⟩⟩
theorem Agr.trans {w w' w'':World}(h:Agr w w')(h':Agr w' w''):Agr w w'' :=
 ⟨Nat.le_trans h.1 h'.1,fun b hb=>⟨fun o=>((h'.2 b (Nat.lt_of_lt_of_le hb h.1)).1 o).trans ((h.2 b hb).1 o),((h'.2 b (Nat.lt_of_lt_of_le hb h.1)).2).trans (h.2 b hb).2⟩⟩
theorem cell_lt {w:World}{b o:Nat}{v:Value}(h:w.cell? ⟨b,o,none⟩=some v):b<w.heap.size:=by
 unfold World.cell? at h
 split at h
 ·
  rename_i h1;exact(Array.getElem?_eq_some_iff.1 h1).1
 ·
  cases h
theorem Agr.cell {w w':World}(h:Agr w w'){b o:Nat}{v:Value}(hc:w.cell? ⟨b,o,none⟩=some v):w'.cell? ⟨b,o,none⟩=some v:=by
 rw[(h.2 b (cell_lt hc)).1 o];exact hc
theorem Agr.of_heap {w w':World}(hs:w.heap.size≤w'.heap.size)(h:∀ b,b<w.heap.size→w'.heap[b]? = w.heap[b]?):Agr w w' :=
 ⟨hs,fun b hb=>⟨fun o=>World.cell?_of_block (w:=w) (h b hb),by simp[World.shape?,h b hb]⟩⟩
def Run (P:Program) {α:Type}(w:World)(s:Sem α)(v:α):Prop:=∀ w',Agr w w'→s.run P w'=.ok v w'
def All:List Prop→Prop
 | []=>True
 |p::r=>p∧All r
def AllD:List DP→Prop
 | []=>True
 |⟨p,_⟩::r=>p∧AllD r
theorem qlW {P:Program} {w:World} {im:Nat→Prop} {ρ:Ids} {op:BinOp} {t:TypeId} {k:IntKind} {x y:Int} {pre:List DP} {v:AV}
  (hx:kwf k x) (hns:q0q op=false) (h:q2M op k x y=.ok pre v) (hp:AllD pre) :
  ∃ val,Run P w (Go.binOp op t (.int k x) (.int k y)) val∧Rep w im ρ val v:=by
 cases op<;>simp only[q2M,PR.ok.injEq,reduceCtorEq] at h<;>simp only[q0q,reduceCtorEq] at hns<;>obtain⟨rfl,rfl⟩:=h
 case add=>exact⟨_,fun w hw=>by simp[Go.binOp,Op.intArith],.int (qei _ _)⟩
 case sub=>exact⟨_,fun w hw=>by simp[Go.binOp,Op.intArith],.int (qei _ _)⟩
 case mul=>exact⟨_,fun w hw=>by simp[Go.binOp,Op.intArith],.int (qei _ _)⟩
 case quo =>
  have hy:y≠0:=hp.1
  exact⟨_,fun w hw=>by simp[Go.binOp,Op.intDiv,hy],.int (qei _ _)⟩
 case rem =>
  have hy:y≠0:=hp.1
  exact⟨_,fun w hw=>by simp[Go.binOp,Op.intDiv,hy],.int (kwf_tmod _ hx)⟩
 case and=>exact⟨_,fun w hw=>by simp[Go.binOp,intBits_and],.int (qdf ..)⟩
 case or=>exact⟨_,fun w hw=>by simp[Go.binOp,intBits_or],.int (qdf ..)⟩
 case xor=>exact⟨_,fun w hw=>by simp[Go.binOp,intBits_xor],.int (qdf ..)⟩
 case andNot=>exact⟨_,fun w hw=>by simp[Go.binOp,intBits_andNot],.int (qdf ..)⟩
 all_goals exact⟨_,fun w hw=>by simp[Go.binOp,Op.intCmp],.bool⟩
theorem q0y {P:Program} {w:World} {im:Nat→Prop} {ρ:Ids} {op:BinOp} {t:TypeId} {k k':IntKind} {x y:Int} {pre:List DP} {v:AV}
  (hx:kwf k x) (h:q0p op k x y=.ok pre v) (hp:AllD pre) :
  ∃ val,Run P w (Go.binOp op t (.int k x) (.int k' y)) val∧Rep w im ρ val v:=by
 cases op<;>simp only[q0p,PR.ok.injEq,reduceCtorEq] at h<;>obtain⟨rfl,rfl⟩:=h<;>have hy:¬ y<0:=Int.not_lt.2 hp.1
 ·
  exact⟨_,fun w hw=>by simp[Go.binOp,Op.shift,hy],.int (qei _ _)⟩
 ·
  exact⟨_,fun w hw=>by simp[Go.binOp,Op.shift,hy],.int (kwf_fdiv _ hx)⟩
theorem qaV (b o j:Nat):(⟨b,o,none⟩:Addr).add j=⟨b,o+j,none⟩:=by
 unfold Addr.add;split<;>simp_all
theorem qoi {P:Program} {w:World} {t:TypeId} {d:TypeDesc} (h:P.underlying t=some d) :
  (isAgg t).run P w=.ok (aggD d) w:=by
 unfold isAgg
 simp only[Sem.run_bind,underlying,run_program,Result.andThen_ok,h,Sem.run_pure]
 cases d<;>rfl
theorem qwS {n:Nat}{g:Nat→Value}{j:Nat}{v:Value}(h:((List.range n).map g).toArray[j]? = some v):j<n∧v=g j:=by
 rw[List.getElem?_toArray,List.getElem?_map] at h
 by_cases hj:j<n
 ·
  rw[List.getElem?_range hj] at h
  simp at h
  exact⟨hj,h.symm⟩
 ·
  rw[List.getElem?_eq_none (by simpa using hj)] at h
  simp at h
theorem qiI {P:Program} {w:World} {im:Nat→Prop} {ρ:Ids} {t:TypeId} {cs:List AV} {off b base:Nat} {v:AV}
  (f:Nat→Value) (hcell:∀ j,j<cs.length→w.cell? ⟨b,base+j,none⟩=some (f j)) (hone:∀ j,j<cs.length→(f j).oneCell'=true)
  (hrep:∀ j,j<cs.length→Rep w im ρ (f j) (nth cs j)) (h:qh8 P t cs off=some v) :
  ∃ val,Run P w (loadVar t ⟨b,base+off,none⟩) val∧Rep w im ρ val v:=by
 unfold qh8 at h
 split at h
 ·
  rename_i i d hi hd
  have hagg:=fun w:World=>qoi (P:=P) (w:=w) hd
  generalize aggD d=ag at h hagg
  cases ag with
  |true =>
   cases hle:Nat.ble (off+i.size) cs.length with
   |false=>simp[hle] at h
   |true =>
    simp only[hle,Option.some.injEq] at h
    subst h
    have hle':=Nat.le_of_ble_eq_true hle
    have hl:=fun(w':World) (hw:Agr w w')=>run_loadCells (P:=P) (w:=w') ⟨b,base+off,none⟩ i.size (fun j=>f (off+j)) (fun j hj=>by
     rw[qaV,Nat.add_assoc];exact hw.cell (hcell _ (by omega)))
    refine⟨.agg ((List.range i.size).map fun j=>f (off+j)).toArray,?_,?_⟩
    ·
     intro w' hw
     unfold loadVar
     simp only[Sem.run_bind,hagg,Result.andThen_ok,if_true,sizeOf,typeInfo,run_program,hi,Sem.run_pure,hl w' hw]
    ·
     refine .agg (by simp[qcw,qcx];omega) (fun j v hj=>?_) (fun j v hj=>?_)
     ·
      obtain⟨h1,rfl⟩:=qwS hj
      exact hone _ (by omega)
     ·
      obtain⟨h1,rfl⟩:=qwS hj
      rw[qne _ _ _ h1,qnf]
      exact hrep _ (by omega)
  |false =>
   cases hlt:Nat.blt off cs.length with
   |false=>simp[hlt] at h
   |true =>
    simp only[hlt,Option.some.injEq] at h
    subst h
    have hlt':off<cs.length:=by simpa [Nat.blt,Nat.succ_le_iff] using hlt
    refine⟨f off,?_,hrep _ hlt'⟩
    intro w' hw
    unfold loadVar
    simp[hagg,hw.cell (hcell _ hlt')]
 ·
  cases h
theorem qf0 {α:Type}{l:Array α}{j:Nat}{v:α}(h:l[j]? = some v):j<l.size:=by
 rcases Nat.lt_or_ge j l.size with h'|h'
 ·
  exact h'
 ·
  simp[Array.getElem?_eq_none h'] at h
theorem qbO {α:Type}{l:List α}{j:Nat}{v:α}(h:l[j]? = some v):j<l.length:=by
 rcases Nat.lt_or_ge j l.length with h'|h'
 ·
  exact h'
 ·
  simp[List.getElem?_eq_none h'] at h
theorem qar {cur:Array Value}{j:Nat}(h:j<cur.size):cur[j]? = some (cur.getD j undef):=by simp[Array.getD,h]
section pop
variable {P : Program} {w : World} {im : Nat → Prop} {ρ : Ids}
theorem qbV (w:World){b j:Nat}{cs:Array Value}{t:TypeId}{fr:Nat×Nat}(hg:w.heap[b]? = some (.cells cs t fr)):w.cell? ⟨b,j,none⟩=cs[j]?:=by
 simp[World.cell?,hg]
theorem qrZ {L:Locs} (hb:∀ i b,lget L i=some b→∃ ob,ρ i=some ob∧BRep w im ρ ob b)
  {t:TypeId} {x:AV} {u:Value} {pre:List DP} {v:AV} (hx:Rep w im ρ u x) (h:qwL P L t x=.ok pre v) (hp:AllD pre) :
  ∃ val,Run P w (Instr.loadAt t u) val∧Rep w im ρ val v:=by
 unfold qwL at h
 split at h
 ·
  rename_i i off
  split at h
  ·
   rename_i cs hl
   obtain⟨ob,hρ,hB⟩:=hb _ _ hl
   obtain⟨ob,m⟩:=ob
   obtain⟨b,cur,e,h1,hh,hsz,hone,hrep⟩:=hB
   dsimp only at h1
   subst h1
   obtain⟨b',m',hρ',rfl⟩:=hx.inv_ptr
   rw[hρ] at hρ'
   simp only[Option.some.injEq,Prod.mk.injEq] at hρ'
   obtain⟨rfl,rfl⟩:=hρ'
   unfold PR.bind1 at h
   split at h
   ·
    rename_i v' hv
    simp only[PR.ok.injEq] at h
    obtain⟨rfl,rfl⟩:=h
    obtain⟨val,hr,hv'⟩:=qiI (P:=P) (w:=w) (im:=im) (ρ:=ρ) (b:=b) (base:=0) (fun j=>cur.getD j undef)
     (fun j hj=>by rw[Nat.zero_add,qbV w hh];exact qar (by omega)) (fun j hj=>hone j _ (qar (by omega))) (fun j hj=>hrep j _ (qar (by omega))) hv
    rw[Nat.zero_add] at hr
    exact⟨val,fun w hw=>by simp[Instr.loadAt,Instr.sureAddr,hr w hw],hv'⟩
   ·
    cases h
  ·
   cases h
 ·
  rename_i c i idx off
  split at h
  ·
   rename_i c' xs hl
   split at h
   ·
    rename_i hc
    have hc:=nbeq hc
    subst hc
    obtain⟨ob,hρ,hB⟩:=hb _ _ hl
    unfold PR.bind1 at h
    split at h
    ·
     rename_i v' hv
     simp only[PR.ok.injEq] at h
     obtain⟨rfl,rfl⟩:=h
     have hidx:=hp.1
     obtain⟨ob,m⟩:=ob
     obtain⟨hkn,hB⟩:=hB
     dsimp only at hkn hB
     rcases hB with ⟨rfl,rfl⟩|⟨b,cur,e,cap,rfl,hh,hsz,hcap,hm,hone,hrep⟩
     ·
      simp at hidx
     ·
      obtain⟨b',m',hρ',rfl⟩:=hx.inv_eptr
      rw[hρ] at hρ'
      simp only[Option.some.injEq,Prod.mk.injEq] at hρ'
      obtain⟨rfl,rfl⟩:=hρ'
      have hlt:∀ j,j<szOf c→idx*szOf c+j<cur.size:=fun j hj=>by
       rw[hsz]
       calc idx*szOf c+j<idx*szOf c+szOf c:=by omega
        _=(idx+1)*szOf c:=by rw[Nat.add_mul,Nat.one_mul]
        _≤cap*szOf c:=Nat.mul_le_mul_right _ (by omega)
      have hgx:xs[idx]? = some (xs.getD idx (dflt c)):=by simp[List.getD,List.getElem?_eq_getElem hidx]
      have hlen:=qbL c (xs.getD idx (dflt c))
      obtain⟨val,hr,hv'⟩:=qiI (P:=P) (w:=w) (im:=im) (ρ:=qai) (b:=b) (base:=idx*szOf c) (fun j=>cur.getD (idx*szOf c+j) undef)
       (fun j hj=>by rw[qbV w hh];exact qar (hlt j (by omega))) (fun j hj=>hone _ _ (qar (hlt j (by omega))))
       (fun j hj=>hrep idx j _ _ hgx (by omega) (qar (hlt j (by omega)))) hv
      exact⟨val,fun w hw=>by simp[Instr.loadAt,Instr.sureAddr,hr w hw],hv'.stable (fun _ _=>rfl) (fun _ h=>h) (fun _ _ h=>by simp[qai] at h) (fun _ _ _ _=>rfl)⟩
    ·
     cases h
   ·
    cases h
  ·
   cases h
 ·
  rename_i c x off
  unfold PR.bind1 at h
  split at h
  ·
   rename_i v' hv
   simp only[PR.ok.injEq] at h
   obtain⟨rfl,rfl⟩:=h
   cases hx with
   | @iref _ b o0 off' _ _ _ hbim ho vals hcell hone hrep =>
    subst ho
    have hlen:=qbL c x
    obtain⟨val,hr,hv'⟩:=qiI (P:=P) (w:=w) (im:=im) (ρ:=qai) (b:=b) (base:=o0) vals
     (fun j hj=>hcell j (by omega)) (fun j hj=>hone j (by omega)) (fun j hj=>hrep j (by omega)) hv
    exact⟨val,fun w hw=>by simp[Instr.loadAt,Instr.sureAddr,hr w hw],hv'.stable (fun _ _=>rfl) (fun _ h=>h) (fun _ _ h=>by simp[qai] at h) (fun _ _ _ _=>rfl)⟩
  ·
   cases h
 ·
  split at h
  ·
   rename_i i hi hd
   split at h
   ·
    simp only[PR.ok.injEq] at h
    obtain⟨rfl,rfl⟩:=h
    cases hx with
    | @wref _ nb b off x hb hn hx' hc hf =>
     have hpart:qh8 P t [.int .u8 x] 0=some (.int .u8 x):=by
      unfold qh8
      rw[hi,hd];rfl
     have h0:∀ j,j < [AV.int .u8 x].length→j=0:=fun j hj=>by simpa using hj
     have hcell:∀ j,j < [AV.int .u8 x].length→w.cell? ⟨b,off+j,none⟩=some (Value.int .u8 x):=fun j hj=>by rw[h0 j hj];exact hc
     have hrep:∀ j,j < [AV.int .u8 x].length→Rep w im qai (Value.int .u8 x) (nth [AV.int .u8 x] j):=fun j hj=>by rw[h0 j hj];exact .int hx'
     obtain⟨val,hr,hv'⟩:=qiI (P:=P) (w:=w) (im:=im) (ρ:=qai) (b:=b) (base:=off) (cs:=[.int .u8 x]) (fun _=>.int .u8 x) hcell (fun j hj=>rfl) hrep hpart
     obtain⟨rfl,h3⟩:=hv'.inv_int
     exact⟨_,fun w hw=>by simpa [Instr.loadAt,Instr.sureAddr] using hr w hw,.anyb h3⟩
   ·
    cases h
  ·
   cases h
 ·
  cases h
theorem qaw {e c:Nat}(h:qbu P e c=true):∃ i,P.info? e=some i∧i.size=szOf c∧0<szOf c:=by
 unfold qbu at h
 split at h
 ·
  rename_i i hi
  simp only[Bool.and_eq_true] at h
  exact⟨i,hi,nbeq h.1,by simpa [Nat.blt,Nat.succ_le_iff] using h.2⟩
 ·
  cases h
theorem qoj {L:Locs} {t:TypeId} {x ix:AV} {u ui:Value} {pre:List DP} {v:AV}
  (hx:Rep w im ρ u x) (hi:Rep w im ρ ui ix) (h:qhP P L t x ix=.ok pre v) (hp:AllD pre) :
  ∃ val,Run P w (Instr.indexAt t u ui) val∧Rep w im ρ val v:=by
 unfold qhP at h
 split at h
 ·
  rename_i k n
  obtain⟨rfl,-⟩:=hi.inv_int
  split at h
  ·
   rename_i e c xs ht
   split at h
   ·
    rename_i hsz
    obtain⟨i,hinf,hszi,hpos⟩:=qaw hsz
    simp only[PR.ok.injEq] at h
    obtain⟨rfl,rfl⟩:=h
    obtain⟨h0,h1,-⟩:=hp
    cases hx with
    |sl0=>simp at h1;omega
    |emp=>simp at h1;omega
    | @sl _ b off cap _ len _ hbim hn hcap hm vals hcell hone hrep =>
     have hidx:n.toNat<xs.length:=by omega
     refine⟨.pointer (some ⟨b,off+n.toNat*szOf c,none⟩),?_,?_⟩
     ·
      intro w hw
      have hcond:0≤n∧n<(len:Int):=⟨h0,by omega⟩
      simp[Instr.indexAt,asIntOf,underlying,ht,hcond,sizeOf,typeInfo,hinf,hszi,qaV]
     ·
      refine .iref hbim (by simp) (vals n.toNat) (fun j hj=>hcell _ j hidx hj) (fun j hj=>hone _ j hidx hj) (fun j hj=>?_)
      exact hrep _ j _ (by simp[List.getD,List.getElem?_eq_getElem hidx]) hj
   ·
    cases h
  ·
   rename_i e c i o len ht
   split at h
   ·
    rename_i hsz
    obtain⟨i',hinf,hszi,hpos⟩:=qaw hsz
    simp only[PR.ok.injEq] at h
    obtain⟨rfl,rfl⟩:=h
    obtain⟨h0,h1,-⟩:=hp
    cases hx with
    |row0 h=>simp at h1;omega
    |rowE h=>simp at h1;omega
    | @row _ _ _ b _ _ cap e' off m0 x0 hρ hle ho hn hm hs =>
     subst ho
     refine⟨.pointer (some ⟨b,o*szOf c+n.toNat*szOf c,none⟩),?_,?_⟩
     ·
      intro w hw
      have hcond:0≤n∧n<(len:Int):=⟨h0,h1⟩
      simp[Instr.indexAt,asIntOf,underlying,ht,hcond,sizeOf,typeInfo,hinf,hszi,qaV]
     ·
      exact .eptr hρ (by rw[Nat.add_mul];rfl)
   ·
    cases h
  ·
   rename_i e nb len ht
   split at h
   ·
    rename_i hsz
    obtain⟨i',hinf,hszi,hpos⟩:=qaw hsz
    simp only[PR.ok.injEq] at h
    obtain⟨rfl,rfl⟩:=h
    obtain⟨h0,h1,-⟩:=hp
    have h0:0≤n:=h0
    have h1:n<(len:Int):=h1
    cases hx with
    | @wsl _ _ ad _ cap hn hm hz hh =>
     obtain⟨b,off,x,rfl,g1,g2,g3,g4,g5⟩:=hh n.toNat (by omega)
     refine⟨.pointer (some ⟨b,off+n.toNat,none⟩),?_,.wref g1 g2 g3 g4 g5⟩
     intro w hw
     have hcond:0≤n∧n<(len:Int):=⟨h0,h1⟩
     have hs1:i'.size=1:=hszi
     simp[Instr.indexAt,asIntOf,underlying,ht,hcond,sizeOf,typeInfo,hinf,hs1,qaV]
   ·
    cases h
  ·
   rename_i len e i ht
   split at h
   ·
    rename_i c xs hl
    split at h
    ·
     rename_i hsz
     obtain⟨i',hinf,hszi,hpos⟩:=qaw hsz
     simp only[PR.ok.injEq] at h
     obtain⟨rfl,rfl⟩:=h
     obtain⟨h0,h1,-⟩:=hp
     obtain⟨b,m,hρ,rfl⟩:=hx.inv_ptr
     refine⟨.pointer (some ⟨b,n.toNat*szOf c,none⟩),?_,.eptr hρ (by simp)⟩
     intro w hw
     have hcond:0≤n∧n<(len:Int):=⟨h0,h1⟩
     simp[Instr.indexAt,Instr.sureAddr,asIntOf,underlying,ht,hcond,sizeOf,typeInfo,hinf,hszi,qaV]
    ·
     cases h
   ·
    split at h
    ·
     cases h
    ·
     rename_i hs
     have hne:qbM P e≠0:=by
      intro e0;rw[e0] at hs;cases hs
     obtain⟨i',hinf⟩:∃ i',P.info? e=some i':=by
      cases hi':P.info? e with
      |none=>exact absurd (by simp[qbM,hi']) hne
      |some i'=>exact⟨i',rfl⟩
     have hszi:qbM P e=i'.size:=by simp[qbM,hinf]
     have hne':i'.size≠0:=by rw[← hszi];exact hne
     simp only[PR.ok.injEq] at h
     obtain⟨rfl,rfl⟩:=h
     obtain⟨h0,h1,-⟩:=hp
     obtain⟨b,m,hρ,rfl⟩:=hx.inv_ptr
     refine⟨.pointer (some ⟨b,n.toNat*qbM P e,none⟩),?_,.ptr hρ⟩
     intro w hw
     have hcond:0≤n∧n<(len:Int):=⟨h0,h1⟩
     simp[Instr.indexAt,Instr.sureAddr,asIntOf,underlying,ht,hcond,sizeOf,typeInfo,hinf,hszi,qaV]
   ·
    cases h
  ·
   cases h
 ·
  cases h
theorem q2T {c:Nat} {xs xs':List (ty c)} {u:Value} {l h sz:Nat} (hx:Rep w im ρ u (.sl c xs)) (hsz:sz=szOf c) (hlh:l≤h) (hh:h≤xs.length) (hxs:xs'=(xs.take h).drop l) :
  ∃ a len cap,u=.slice a len cap∧len=xs.length∧len≤cap∧Rep w im ρ (.slice (if cap=l then a else a.map (·.add (l*sz))) (h-l) (cap-l)) (.sl c xs'):=by
 subst hxs
 cases hx with
 |sl0 =>
  refine⟨none,0,0,rfl,rfl,Nat.le_refl _,?_⟩
  simp at hh
  subst hh
  have:l=0:=by omega
  subst this
  simp
  exact .sl0
 | @emp _ _ a =>
  refine⟨some a,0,0,rfl,rfl,Nat.le_refl _,?_⟩
  simp at hh
  subst hh
  have:l=0:=by omega
  subst this
  simp
  exact .emp
 | @sl _ b off cap _ len _ hbim hn hcap hm vals hcell hone hrep =>
  refine⟨_,_,_,rfl,hn,hcap,?_⟩
  have hl':(List.drop l (List.take h xs)).length=h-l:=by simp;omega
  by_cases hc:cap=l
  ·
   rw[if_pos hc]
   refine .sl hbim hl'.symm (by omega) (by omega) vals (fun i j hi=>?_) (fun i j hi=>?_) (fun i j x hx=>?_)
   ·
    rw[hl'] at hi;omega
   ·
    rw[hl'] at hi;omega
   ·
    have:=qbO hx;rw[hl'] at this;omega
  ·
   rw[if_neg hc]
   simp only[Option.map_some,qaV]
   subst hsz
   refine .sl hbim hl'.symm (by omega) (by omega) (fun i j=>vals (l+i) j) (fun i j hi hj=>?_) (fun i j hi hj=>?_) (fun i j x hx hj=>?_)
   ·
    rw[hl'] at hi
    have:=hcell (l+i) j (by omega) hj
    rw[← this,Nat.add_mul]
    congr 2
    omega
   ·
    rw[hl'] at hi
    exact hone (l+i) j (by omega) hj
   ·
    have h2:=qbO hx
    rw[hl'] at h2
    rw[List.getElem?_drop,List.getElem?_take,if_pos (by omega)] at hx
    exact hrep (l+i) j x hx hj
theorem quG {c i o n:Nat} {u:Value} {l h sz:Nat} (hx:Rep w im ρ u (.row c i o n)) (hsz:sz=szOf c) (hlh:l≤h) (hh:h≤n) :
  ∃ a len cap,u=.slice a len cap∧len=n∧len≤cap∧Rep w im ρ (.slice (if cap=l then a else a.map (·.add (l*sz))) (h-l) (cap-l)) (.row c i (o+l) (h-l)):=by
 subst hsz
 cases hx with
 |row0 hρ =>
  refine⟨none,0,0,rfl,rfl,Nat.le_refl _,?_⟩
  have h1:h=0:=by omega
  have h2:l=0:=by omega
  subst h1;subst h2
  simp
  exact .row0 hρ
 | @rowE _ _ _ _ b off cap m hρ ho hm =>
  refine⟨_,0,cap,rfl,rfl,Nat.zero_le _,?_⟩
  have h1:h=0:=by omega
  have h2:l=0:=by omega
  subst h1;subst h2
  by_cases hc:cap=0
  ·
   rw[if_pos hc];exact .rowE hρ (by omega) (by omega)
  ·
   rw[if_neg hc]
   simp only[Option.map_some,qaV]
   exact .rowE hρ (by omega) (by omega)
 | @row _ _ _ b _ _ cap e' off m0 x0 hρ hle ho hn hm hs =>
  subst ho
  refine⟨_,_,_,rfl,rfl,hn,?_⟩
  have e1:(o+l+(cap-l)+x0)*szOf c=(o+cap+x0)*szOf c:=by congr 1;omega
  by_cases hc:cap=l
  ·
   rw[if_pos hc]
   by_cases hl0:l=0
   ·
    subst hl0
    exact .row (x:=x0) hρ (by omega) (by simp) (by omega) (by omega) (by rw[e1];exact hs)
   ·
    have h1:h-l=0:=by omega
    rw[h1]
    exact .rowE hρ (by omega) (by omega)
  ·
   rw[if_neg hc]
   simp only[Option.map_some,qaV]
   exact .row (x:=x0) hρ (by omega) (by rw[Nat.add_mul]) (by omega) (by omega) (by rw[e1];exact hs)
theorem qwT {t e:TypeId} (ht:P.underlying t=some (.slice e)) {i:TypeInfo} (hi:P.info? e=some i) {c j o n:Nat} {u hv mv:Value} {kh km:IntKind} {h m:Int}
  (hx:Rep w im ρ u (.row c j o n)) (hsz:i.size=szOf c) (hh:Rep w im ρ hv (.int kh h)) (hm:Rep w im ρ mv (.int km m)) (h0:0≤h) (h1:h≤m) (h2:m≤n) :
  ∃ val,Run P w (Instr.sliceAt t u none (some hv) (some mv)) val∧Rep w im ρ val (.row c j o h.toNat):=by
 obtain⟨rfl,-⟩:=hh.inv_int
 obtain⟨rfl,-⟩:=hm.inv_int
 have b1:∀ (kd:IntKind) (z:Int) (y:Nat) (code:BoundsCode),0≤z→z≤(y:Int)→∀ w',(Instr.sliceBound (.int kd z) y code).run P w'=.ok z.toNat w':=by
  intro kd z y code h0 hle w'
  have:0≤z∧z≤(y:Int):=⟨h0,hle⟩
  simp[Instr.sliceBound,asIntOf,this]
 have key:∀ (a:Option Addr) (len cap:Nat),u=.slice a len cap→m≤(cap:Int)→Run P w (Instr.sliceAt t u none (some (.int kh h)) (some (.int km m))) (.slice (if m.toNat=0 then a else a.map (·.add (0*i.size))) h.toNat m.toNat):=by
  intro a len cap hu hmc w' hw
  subst hu
  simp[Instr.sliceAt,Instr.slice,Instr.sliceBounds,underlying,ht,sizeOf,typeInfo,hi,b1 km m cap _ (by omega) hmc,b1 kh h m.toNat _ h0 (by omega)]
 cases hx with
 |row0 hρ =>
  have e1:m=0:=by simp at h2;omega
  have e2:h=0:=by omega
  subst e1;subst e2
  refine⟨_,key none 0 0 rfl (by decide),?_⟩
  simp
  exact .row0 hρ
 | @rowE _ _ _ _ b off cap m0 hρ ho hm0 =>
  have e1:m=0:=by simp at h2;omega
  have e2:h=0:=by omega
  subst e1;subst e2
  refine⟨_,key _ 0 cap rfl (by omega),?_⟩
  simp
  exact .rowE hρ ho (Nat.zero_le _)
 | @row _ _ _ b _ _ cap e' off m0 x0 hρ hle ho hn hm0 hs =>
  refine⟨_,key _ n cap rfl (by omega),?_⟩
  have e1:(o+m.toNat+(cap-m.toNat+x0))*szOf c=(o+cap+x0)*szOf c:=by congr 1;omega
  have e2:(if m.toNat=0 then some (⟨b,off,none⟩:Addr) else (some (⟨b,off,none⟩:Addr)).map (·.add (0*i.size)))=some ⟨b,off,none⟩:=by
   split
   ·
    rfl
   ·
    simp only[Option.map_some,qaV,Nat.zero_mul,Nat.add_zero]
  rw[e2]
  exact .row (x:=cap-m.toNat+x0) hρ (by omega) ho (by omega) (by omega) (by rw[e1];exact hs)
theorem qhS {t e:TypeId} (ht:P.underlying t=some (.slice e)) {i:TypeInfo} (hi:P.info? e=some i) {x:AV} {u:Value} {lo hi':Option AV} {lv hv:Option Value} {pre:List DP} {v:AV}
  (hsz:∀ c xs,x=.sl c xs→i.size=szOf c) (hsz':∀ c j o n,x=.row c j o n→i.size=szOf c)
  (hx:Rep w im ρ u x) (hlo:lo=none∧lv=none∨∃ a b,lo=some a∧lv=some b∧Rep w im ρ b a) (hhi:hi'=none∧hv=none∨∃ a b,hi'=some a∧hv=some b∧Rep w im ρ b a)
  (h:qod x lo hi'=.ok pre v) (hp:AllD pre) :
  ∃ val,Run P w (Instr.sliceAt t u lv hv none) val∧Rep w im ρ val v:=by
 have key:∀ (a:Option Addr) (len cap l h:Nat),u=.slice a len cap→l≤h→h≤cap →
   (∀ k,lv=some k→∃ kd n,k=.int kd n∧0≤n∧n.toNat=l)→(lv=none→l=0)→(∀ k,hv=some k→∃ kd n,k=.int kd n∧0≤n∧n.toNat=h)→(hv=none→h=len) →
   Run P w (Instr.sliceAt t u lv hv none) (.slice (if cap=l then a else a.map (·.add (l*i.size))) (h-l) (cap-l)):=by
  intro a len cap l h hu hlh hhc h1 h2 h3 h4 w hw
  subst hu
  have b1:∀ (k:Value) (y m:Nat) (code:BoundsCode),(∃ kd n,k=.int kd n∧0≤n∧n.toNat=m)→m≤y→(Instr.sliceBound k y code).run P w=.ok m w:=by
   rintro k y m code ⟨kd,n,rfl,h0,rfl⟩ hle
   have:0≤n∧n≤(y:Int):=⟨h0,by omega⟩
   simp[Instr.sliceBound,asIntOf,this]
  cases lv with
  |none =>
   have:=h2 rfl
   subst this
   cases hv with
   |none =>
    have:=h4 rfl
    subst this
    simp[Instr.sliceAt,Instr.slice,Instr.sliceBounds,underlying,ht,sizeOf,typeInfo,hi]
   |some k =>
    simp[Instr.sliceAt,Instr.slice,Instr.sliceBounds,underlying,ht,sizeOf,typeInfo,hi,b1 k cap h _ (h3 k rfl) hhc]
  |some k =>
   cases hv with
   |none =>
    have:=h4 rfl
    subst this
    simp[Instr.sliceAt,Instr.slice,Instr.sliceBounds,underlying,ht,sizeOf,typeInfo,hi,b1 k _ l _ (h1 k rfl) hlh]
   |some k' =>
    simp[Instr.sliceAt,Instr.slice,Instr.sliceBounds,underlying,ht,sizeOf,typeInfo,hi,b1 k' cap h _ (h3 k' rfl) hhc,b1 k _ l _ (h1 k rfl) hlh]
 have fin:∀ (l h:Nat),l≤h→(∀ k,lv=some k→∃ kd n,k=.int kd n∧0≤n∧n.toNat=l)→(lv=none→l=0)→(∀ k,hv=some k→∃ kd n,k=.int kd n∧0≤n∧n.toNat=h) →
   (∃ a len cap,u=.slice a len cap∧len≤cap∧h≤len∧(hv=none→h=len)∧Rep w im ρ (.slice (if cap=l then a else a.map (·.add (l*i.size))) (h-l) (cap-l)) v) →
   ∃ val,Run P w (Instr.sliceAt t u lv hv none) val∧Rep w im ρ val v:=by
  rintro l h hlh h1 h2 h3 ⟨a,len,cap,hu,hc,hl,h4,hr⟩
  exact⟨_,key a len cap l h hu hlh (by omega) h1 h2 h3 h4,hr⟩
 have one:∀ {a:AV} {o:Option AV} {ov:Option Value} {kd:IntKind} {n:Int},(o=none∧ov=none∨∃ a b,o=some a∧ov=some b∧Rep w im ρ b a)→o=some (.int kd n)→0≤n→∀ k,ov=some k→∃ kd n',k=.int kd n'∧0≤n'∧n'.toNat=n.toNat:=by
  rintro a o ov kd n (⟨rfl,rfl⟩|⟨a',b,rfl,rfl,hr⟩) ho h0 k hk
  ·
   cases ho
  ·
   cases ho;cases hk
   obtain⟨rfl,-⟩:=hr.inv_int
   exact⟨_,_,rfl,h0,rfl⟩
 have non:∀ {o:Option AV} {ov:Option Value},(o=none∧ov=none∨∃ a b,o=some a∧ov=some b∧Rep w im ρ b a)→o=none→ov=none:=by
  rintro o ov (⟨rfl,rfl⟩|⟨a',b,rfl,rfl,hr⟩) ho
  ·
   rfl
  ·
   cases ho
 have som:∀ {o:Option AV} {ov:Option Value} {y:AV},(o=none∧ov=none∨∃ a b,o=some a∧ov=some b∧Rep w im ρ b a)→o=some y→ov≠none:=by
  rintro o ov y (⟨rfl,rfl⟩|⟨a',b,rfl,rfl,hr⟩) ho
  ·
   cases ho
  ·
   simp
 unfold qod at h
 split at h<;>(try (cases h;done))<;>simp only[PR.ok.injEq] at h<;>obtain⟨rfl,rfl⟩:=h
 ·
  rename_i c xs
  obtain⟨a,len,cap,hu,hl,hc,hr⟩:=q2T (l:=0) (h:=xs.length) (xs':=xs) hx (hsz c xs rfl) (Nat.zero_le _) (Nat.le_refl _) (by simp)
  have e1:=non hlo rfl;have e2:=non hhi rfl
  exact fin 0 xs.length (Nat.zero_le _) (by simp[e1]) (by simp) (by simp[e2]) ⟨a,len,cap,hu,hc,by omega,fun _=>hl.symm,hr⟩
 ·
  rename_i c xs kd l
  obtain⟨h0,h1,-⟩:=hp
  obtain⟨a,len,cap,hu,hl,hc,hr⟩:=q2T (l:=l.toNat) (h:=xs.length) (xs':=xs.drop l.toNat) hx (hsz c xs rfl) (by omega) (Nat.le_refl _) (by simp)
  have e2:=non hhi rfl
  exact fin l.toNat xs.length (by omega) (one (a:=.dead) hlo rfl h0) (fun e=>(som hlo rfl e).elim) (by simp[e2]) ⟨a,len,cap,hu,hc,by omega,fun _=>hl.symm,hr⟩
 ·
  rename_i c xs kd hh
  obtain⟨h0,h1,-⟩:=hp
  obtain⟨a,len,cap,hu,hl,hc,hr⟩:=q2T (l:=0) (h:=hh.toNat) (xs':=xs.take hh.toNat) hx (hsz c xs rfl) (by omega) (by omega) (by simp)
  have e1:=non hlo rfl
  exact fin 0 hh.toNat (by omega) (by simp[e1]) (by simp) (one (a:=.dead) hhi rfl h0) ⟨a,len,cap,hu,hc,by omega,fun e=>(som hhi rfl e).elim,hr⟩
 ·
  rename_i c xs kd l kd' hh
  obtain⟨h0,h1,h2,-⟩:=hp
  obtain⟨a,len,cap,hu,hl,hc,hr⟩:=q2T (l:=l.toNat) (h:=hh.toNat) hx (hsz c xs rfl) (by omega) (by omega) rfl
  exact fin l.toNat hh.toNat (by omega) (one (a:=.dead) hlo rfl h0) (fun e=>(som hlo rfl e).elim) (one (a:=.dead) hhi rfl (by omega)) ⟨a,len,cap,hu,hc,by omega,fun e=>(som hhi rfl e).elim,hr⟩
 ·
  rename_i c j o n
  obtain⟨a,len,cap,hu,hl,hc,hr⟩:=quG (l:=0) (h:=n) hx (hsz' c j o n rfl) (Nat.zero_le _) (Nat.le_refl _)
  have e1:=non hlo rfl;have e2:=non hhi rfl
  exact fin 0 n (Nat.zero_le _) (by simp[e1]) (by simp) (by simp[e2]) ⟨a,len,cap,hu,hc,by omega,fun _=>hl.symm,by simpa using hr⟩
 ·
  rename_i c j o n kd l
  obtain⟨h0,h1,-⟩:=hp
  obtain⟨a,len,cap,hu,hl,hc,hr⟩:=quG (l:=l.toNat) (h:=n) hx (hsz' c j o n rfl) (by omega) (Nat.le_refl _)
  have e2:=non hhi rfl
  exact fin l.toNat n (by omega) (one (a:=.dead) hlo rfl h0) (fun e=>(som hlo rfl e).elim) (by simp[e2]) ⟨a,len,cap,hu,hc,by omega,fun _=>hl.symm,hr⟩
 ·
  rename_i c j o n kd hh
  obtain⟨h0,h1,-⟩:=hp
  obtain⟨a,len,cap,hu,hl,hc,hr⟩:=quG (l:=0) (h:=hh.toNat) hx (hsz' c j o n rfl) (by omega) (by omega)
  have e1:=non hlo rfl
  exact fin 0 hh.toNat (by omega) (by simp[e1]) (by simp) (one (a:=.dead) hhi rfl h0) ⟨a,len,cap,hu,hc,by omega,fun e=>(som hhi rfl e).elim,by simpa using hr⟩
 ·
  rename_i c j o n kd l kd' hh
  obtain⟨h0,h1,h2,-⟩:=hp
  obtain⟨a,len,cap,hu,hl,hc,hr⟩:=quG (l:=l.toNat) (h:=hh.toNat) hx (hsz' c j o n rfl) (by omega) (by omega)
  exact fin l.toNat hh.toNat (by omega) (one (a:=.dead) hlo rfl h0) (fun e=>(som hlo rfl e).elim) (one (a:=.dead) hhi rfl (by omega)) ⟨a,len,cap,hu,hc,by omega,fun e=>(som hhi rfl e).elim,hr⟩
 ·
  have hu:=hx.inv_nilsl
  have e1:=non hlo rfl;have e2:=non hhi rfl
  exact fin 0 0 (Nat.le_refl _) (by simp[e1]) (by simp) (by simp[e2]) ⟨none,0,0,hu,Nat.le_refl _,Nat.le_refl _,fun _=>rfl,by simpa using Rep.nilsl⟩
 ·
  rename_i kd l
  obtain⟨h0,-⟩:=hp
  have h0:l=0:=h0
  subst h0
  have hu:=hx.inv_nilsl
  have e2:=non hhi rfl
  exact fin 0 0 (Nat.le_refl _) (one (a:=.dead) hlo rfl (by omega)) (fun e=>(som hlo rfl e).elim) (by simp[e2]) ⟨none,0,0,hu,Nat.le_refl _,Nat.le_refl _,fun _=>rfl,by simpa using Rep.nilsl⟩
 ·
  rename_i kd hh
  obtain⟨h0,-⟩:=hp
  have h0:hh=0:=h0
  subst h0
  have hu:=hx.inv_nilsl
  have e1:=non hlo rfl
  exact fin 0 0 (Nat.le_refl _) (by simp[e1]) (by simp) (one (a:=.dead) hhi rfl (by omega)) ⟨none,0,0,hu,Nat.le_refl _,Nat.le_refl _,fun _=>rfl,by simpa using Rep.nilsl⟩
 ·
  rename_i kd l kd' hh
  obtain⟨h0,h1,-⟩:=hp
  have h0:l=0:=h0
  have h1:hh=0:=h1
  subst h0;subst h1
  have hu:=hx.inv_nilsl
  exact fin 0 0 (Nat.le_refl _) (one (a:=.dead) hlo rfl (by omega)) (fun e=>(som hlo rfl e).elim) (one (a:=.dead) hhi rfl (by omega)) ⟨none,0,0,hu,Nat.le_refl _,Nat.le_refl _,fun _=>rfl,by simpa using Rep.nilsl⟩
theorem qlX {t:TypeId}{f off ft:Nat}(h:qoc P t f=some (off,ft)):∃ fs fd,P.underlying t=some (.struct fs)∧fs[f]? = some fd∧fd.offset=off∧fd.type=ft:=by
 unfold qoc at h
 split at h
 ·
  rename_i fs hfs
  split at h
  ·
   rename_i fd hfd
   simp only[Option.some.injEq,Prod.mk.injEq] at h
   exact⟨fs,fd,hfs,by simpa using hfd,h.1,h.2⟩
  ·
   cases h
 ·
  cases h
theorem q4D {t:TypeId}(h:Nat.beq (qbM P t) 0=false):∃ i,P.info? t=some i∧i.size≠0:=by
 have h:=qbA h
 unfold qbM at h
 split at h
 ·
  exact⟨_,‹_›,h⟩
 ·
  simp at h
theorem qk7 {t:TypeId} {f off ft b o:Nat} (h:qoc P t f=some (off,ft)) (hs:Nat.beq (qbM P ft) 0=false) :
  (Instr.fieldAt t (.pointer (some ⟨b,o,none⟩)) f).run P w=.ok (.pointer (some ⟨b,o+off,none⟩)) w:=by
 obtain⟨fs,fd,h1,h2,rfl,rfl⟩:=qlX h
 obtain⟨i,hi,hne⟩:=q4D hs
 simp[Instr.fieldAt,underlying,h1,h2,Instr.sureAddr,fieldPlace,sizeOf,typeInfo,hi,hne,qaV]
theorem part_agg {ft:TypeId} {cs:List AV} {vs:Array Value} {off:Nat} {v:AV} (hl:vs.size=cs.length) (hone:∀ (j:Nat) (v:Value),vs[j]? = some v→v.oneCell'=true)
  (hr:∀ (j:Nat) (v:Value),vs[j]? = some v→Rep w im ρ v (nth cs j)) (h:qh8 P ft cs off=some v) :
  ∃ val,Run P w (part ft vs off) val∧Rep w im ρ val v:=by
 unfold qh8 at h
 split at h
 ·
  rename_i i d hi hd
  have hagg:=fun w:World=>qoi (P:=P) (w:=w) hd
  generalize aggD d=ag at h hagg
  cases ag with
  |true =>
   cases hle:Nat.ble (off+i.size) cs.length with
   |false=>simp[hle] at h
   |true =>
    simp only[hle,Option.some.injEq] at h
    subst h
    have hle':=Nat.le_of_ble_eq_true hle
    refine⟨.agg (vs.extract off (off+i.size)),?_,?_⟩
    ·
     intro w hw
     unfold part
     simp only[Sem.run_bind,hagg,Result.andThen_ok,if_true,sizeOf,typeInfo,run_program,hi,Sem.run_pure]
    ·
     have hg:∀ (j:Nat) (v:Value),(vs.extract off (off+i.size))[j]? = some v→j<i.size∧vs[off+j]? = some v:=by
      intro j v hj
      rw[Array.getElem?_extract] at hj
      split at hj
      ·
       exact⟨by omega,hj⟩
      ·
       cases hj
     refine .agg (by simp[qcw,qcx];omega) (fun j v hj=>hone _ _ (hg j v hj).2) (fun j v hj=>?_)
     obtain⟨h1,h2⟩:=hg j v hj
     rw[qne _ _ _ h1,qnf]
     exact hr _ _ h2
  |false =>
   cases hlt:Nat.blt off cs.length with
   |false=>simp[hlt] at h
   |true =>
    simp only[hlt,Option.some.injEq] at h
    subst h
    have hlt':off<cs.length:=by simpa [Nat.blt,Nat.succ_le_iff] using hlt
    obtain⟨u,hv⟩:∃ u,vs[off]? = some u:=⟨_,qar (cur:=vs) (j:=off) (by omega)⟩
    refine⟨_,?_,hr _ _ hv⟩
    intro w hw
    unfold part
    simp[hagg,hv]
 ·
  cases h
theorem un_sound {op:UnOp} {x:AV} {u:Value} {pre:List DP} {v:AV} (hx:Rep w im ρ u x) (h:unAV op x=.ok pre v) :
  ∃ val,Run P w (Op.unary op u) val∧Rep w im ρ val v:=by
 unfold unAV at h
 split at h<;>(try (cases h;done))<;>simp only[PR.ok.injEq] at h<;>obtain⟨rfl,rfl⟩:=h
 ·
  obtain⟨rfl,-⟩:=hx.inv_int
  exact⟨_,fun w hw=>by simp[Op.unary,Op.intArith],.int (qei _ _)⟩
 ·
  obtain⟨rfl,-⟩:=hx.inv_int
  exact⟨_,fun w hw=>by simp[Op.unary,IntKind.signed,IntKind.max,IntKind.bits,intBits_xor],.int (qdf ..)⟩
 ·
  obtain⟨rfl,-⟩:=hx.inv_int
  exact⟨_,fun w hw=>by simp[Op.unary,IntKind.signed,IntKind.max,IntKind.bits,intBits_xor],.int (qdf ..)⟩
 ·
  obtain⟨rfl,-⟩:=hx.inv_int
  exact⟨_,fun w hw=>by simp[Op.unary,IntKind.signed,IntKind.max,IntKind.bits,intBits_xor],.int (qdf ..)⟩
 ·
  obtain⟨rfl,-⟩:=hx.inv_int
  exact⟨_,fun w hw=>by simp[Op.unary,IntKind.signed,IntKind.max,IntKind.bits,intBits_xor],.int (qdf ..)⟩
 ·
  cases hx.inv_bool
  exact⟨_,fun w hw=>by simp[Op.unary],.bool⟩
theorem quH {n:Nat}(h:n≤maxLen):kwf .i64 (n:Int):=by
 unfold maxLen at h
 simp[kwf,IntKind.min,IntKind.max,IntKind.signed,IntKind.bits]
 omega
theorem q62 {t:TypeId} {d:TypeDesc} (ht:P.underlying t=some d) {x:AV} {u:Value} {pre:List DP} {v:AV}
  (hx:Rep w im ρ u x) (h:lenAV d x=.ok pre v) (ts:List TypeId) (ty:TypeId) :
  ∃ val,Run P w (Builtin.len_ (t::ts).toArray ty #[u]) val∧Rep w im ρ val v:=by
 unfold lenAV at h
 split at h<;>(try (cases h;done))<;>simp only[PR.ok.injEq] at h<;>obtain⟨rfl,rfl⟩:=h
 ·
  rename_i e c xs
  have:∃ a n cap,u=.slice a n cap∧n=xs.length∧n≤maxLen:=by
   cases hx with
   |sl0=>exact⟨_,_,_,rfl,rfl,by decide⟩
   |emp=>exact⟨_,_,_,rfl,rfl,by decide⟩
   |sl hb hn hcap hm vals hcell hone hrep=>exact⟨_,_,_,rfl,hn,by omega⟩
  obtain⟨a,n,cap,rfl,rfl,hm⟩:=this
  exact⟨.int .i64 xs.length,fun w hw=>by simp[Builtin.len_,underlying,ht,goInt],.int (quH hm)⟩
 ·
  rename_i e c i o n
  have:∃ a cap,u=.slice a n cap∧n≤maxLen:=by
   cases hx with
   |row0=>exact⟨_,_,rfl,by decide⟩
   |row _ _ _ hn hm _=>exact⟨_,_,rfl,by omega⟩
   |rowE=>exact⟨_,_,rfl,by decide⟩
  obtain⟨a,cap,rfl,hm⟩:=this
  exact⟨.int .i64 n,fun w hw=>by simp[Builtin.len_,underlying,ht,goInt],.int (quH hm)⟩
 ·
  rename_i e nb n
  obtain⟨a,cap,rfl,hm⟩:∃ a cap,u=.slice a n cap∧n≤maxLen:=by
   cases hx with
   |wsl hn hm=>exact⟨_,_,rfl,by omega⟩
  exact⟨.int .i64 n,fun w hw=>by simp[Builtin.len_,underlying,ht,goInt],.int (quH hm)⟩
 ·
  cases hx.inv_nilsl
  exact⟨.int .i64 0,fun w hw=>by simp[Builtin.len_,underlying,ht,goInt],.int (quF _)⟩
 ·
  rename_i s
  obtain⟨rfl,hm⟩:=hx.inv_str
  exact⟨.int .i64 s.size,fun w hw=>by simp[Builtin.len_,underlying,ht,goInt],.int (quH hm)⟩
theorem q0z (xs:List UInt8):strOfNums (xs.map fun x=>(x.toNat:Int))=⟨xs.toArray⟩:=by
 unfold strOfNums
 congr 2
 rw[List.map_map]
 conv=>rhs;rw[← List.map_id xs]
 apply List.map_congr_left
 intro x _
 simp
theorem quI {L:Locs} (hb:∀ i b,lget L i=some b→∃ ob,ρ i=some ob∧BRep w im ρ ob b) {x:AV} {u:Value} {xs:List UInt8}
  (hx:Rep w im ρ u x) (h:bytesOf L x=some xs) :
  (u=.slice none 0 0∧xs=[])∨(∃ a,u=.slice (some a) 0 0∧xs=[])∨∃ b off n cap,u=.slice (some ⟨b,off,none⟩) n cap∧n=xs.length∧n≤maxLen∧∀ i,i<n→w.cell? ⟨b,off+i,none⟩=some (.int .u8 ((xs.getD i 0).toNat:Int)):=by
 unfold bytesOf at h
 split at h
 ·
  simp only[Option.some.injEq] at h;subst h
  exact .inl ⟨hx.inv_nilsl,rfl⟩
 ·
  rename_i ys
  simp only[Option.some.injEq] at h;subst h
  cases hx with
  |sl0=>exact .inl ⟨rfl,rfl⟩
  |emp=>exact .inr (.inl ⟨_,rfl,rfl⟩)
  | @sl _ b off cap _ len _ hbim hn hcap hm vals hcell hone hrep =>
   refine .inr (.inr ⟨b,off,len,cap,rfl,hn,by omega,fun i hi=>?_⟩)
   have hi':i<ys.length:=by omega
   have h1:=hcell i 0 hi' (by simp[szOf])
   have h2:=hrep i 0 ys[i] (by simp[hi']) (by simp[szOf])
   simp only[enc,nth] at h2
   obtain⟨h3,-⟩:=h2.inv_int
   simp only[szOf,Nat.mul_one,Nat.add_zero] at h1
   rw[h1,h3]
   simp[List.getD,hi']
 ·
  rename_i i o n
  split at h
  ·
   rename_i ys hl
   simp only[Option.some.injEq] at h;subst h
   obtain⟨ob,hρ,hB⟩:=hb _ _ hl
   cases hx with
   |row0 h0=>exact .inl ⟨rfl,by simp⟩
   |rowE h0 ho hm=>exact .inr (.inr ⟨_,_,0,_,rfl,by simp,Nat.zero_le _,fun i hi=>absurd hi (by simp)⟩)
   | @row _ _ _ b _ _ cap e off m x0 hρ' hle ho hn hm hs =>
    rw[hρ] at hρ'
    simp only[Option.some.injEq] at hρ'
    subst hρ'
    obtain⟨hkn,hB⟩:=hB
    dsimp only at hkn hB
    rcases hB with ⟨h1,-⟩|⟨b',cur,e',cap',h1,hh,hsz,hcap,hm',hone,hrep⟩
    ·
     cases h1
    ·
     simp only[Option.some.injEq] at h1
     subst h1
     subst ho
     refine .inr (.inr ⟨b,o*szOf 0,n,cap,rfl,by simp;omega,by omega,fun i hi=>?_⟩)
     have hi':o+i<ys.length:=by omega
     have hc:(o+i)*szOf 0+0<cur.size:=by rw[hsz];simp[szOf];omega
     have h2:=hrep (o+i) 0 ys[o+i] _ (by simp[hi']) (by simp[szOf]) (qar hc)
     simp only[enc,nth] at h2
     obtain⟨h3,-⟩:=h2.inv_int
     rw[qbV w hh]
     have h4:=qar hc
     rw[h3] at h4
     simp only[szOf,Nat.mul_one,Nat.add_zero] at h4 ⊢
     rw[h4]
     simp[List.getD,List.getElem?_take,hi,List.getElem?_drop,hi']
  ·
   cases h
 ·
  cases h
theorem q4E {L:Locs} (hb:∀ i b,lget L i=some b→∃ ob,ρ i=some ob∧BRep w im ρ ob b) {s d:TypeId} {x:AV} {u:Value} {pre:List DP} {v:AV}
  (hx:Rep w im ρ u x) (h:q6m P L s d x=.ok pre v) :
  ∃ val,Run P w (convert s d u) val∧Rep w im ρ val v:=by
 unfold q6m at h
 split at h
 ·
  rename_i ks kd k n hs hd
  simp only[PR.ok.injEq] at h;obtain⟨rfl,rfl⟩:=h
  obtain⟨rfl,-⟩:=hx.inv_int
  exact⟨_,fun w hw=>by simp[convert,underlying,hs,hd,Conv.intToInt],.int (qei _ _)⟩
 ·
  rename_i e hs hd
  split at h
  ·
   rename_i he
   split at h
   ·
    rename_i xs hxs
    simp only[PR.ok.injEq] at h;obtain⟨rfl,rfl⟩:=h
    rcases quI hb hx hxs with ⟨rfl,rfl⟩|⟨a,rfl,rfl⟩|⟨b,off,n,cap,rfl,hn,hm,hcell⟩
    ·
     exact⟨_,fun w hw=>run_convert_bytes_nil w s e hs he 0 0 d hd,.str (by decide)⟩
    ·
     exact⟨_,fun w hw=>by
      have hl:(loadCells a 0).run P w=.ok #[] w:=by
       have:=run_loadCells_list (P:=P) w a [] (fun j v hj=>by simp at hj)
       simpa using this
      rw[run_convert_bytes_string w s d e _ 0 0 hs he hd]
      simp[Conv.bytesToString,hl]
      rfl,.str (by decide)⟩
    ·
     refine⟨_,fun w' hw=>run_convert_bytes_arg w' s e hs he b off n cap (xs.map fun x=>(x.toNat:Int)) (by simp[hn]) (fun i hi=>?_) d hd,?_⟩
     ·
      rw[hw.cell (hcell i hi)]
      have:i<xs.length:=by omega
      simp[List.getD,this]
     ·
      rw[q0z]
      exact .str (by simp[ByteArray.size];omega)
   ·
    cases h
  ·
   cases h
 ·
  rename_i y hs hd
  simp only[PR.ok.injEq] at h;obtain⟨rfl,rfl⟩:=h
  obtain⟨rfl,hm⟩:=hx.inv_str
  exact⟨_,fun w hw=>by simp[convert,underlying,hs,hd],.str hm⟩
 ·
  cases h
def CRep (w:World)(im:Nat→Prop) (ρ:Ids)(vs:Array Value)(cs:List AV):Prop :=
 vs.size=cs.length∧(∀ (j:Nat) (v:Value),vs[j]? = some v→v.oneCell'=true)∧∀ (j:Nat) (v:Value),vs[j]? = some v→Rep w im ρ v (nth cs j)
theorem qf1 {v:Value}{av:AV}(h:Rep w im ρ v av)(hpos:0<(qat av).length):CRep w im ρ v.cells (qat av):=by
 have one:∀ {v:Value} {av:AV},Rep w im ρ v av→v.oneCell'=true→v.cells=#[v]→CRep w im ρ v.cells [av]:=by
  intro v av hr ho hc
  rw[hc]
  refine⟨rfl,fun j u hu=>?_,fun j u hu=>?_⟩
  ·
   have:=qf0 hu;simp at this;subst this;simp at hu;subst hu;exact ho
  ·
   have:=qf0 hu;simp at this;subst this;simp at hu;subst hu;exact hr
 cases h with
 |agg hl hone hr=>exact⟨hl,hone,hr⟩
 |tup=>simp[qat] at hpos
 |dead=>simp[qat] at hpos
 |int h=>exact one (.int h) rfl rfl
 |bool=>exact one .bool rfl rfl
 |str h=>exact one (.str h) rfl rfl
 |nilptr=>exact one .nilptr rfl rfl
 |nilsl=>exact one .nilsl rfl rfl
 |nilfn=>exact one .nilfn rfl rfl
 |sl0=>exact one .sl0 rfl rfl
 |emp=>exact one .emp rfl rfl
 |sl hb hn hcap hm vals hcell hone hrep=>exact one (.sl hb hn hcap hm vals hcell hone hrep) rfl rfl
 |iref hb ho vals hcell hone hrep=>exact one (.iref hb ho vals hcell hone hrep) rfl rfl
 |row0 h=>exact one (.row0 h) rfl rfl
 |row h hle ho hn hm hs=>exact one (.row h hle ho hn hm hs) rfl rfl
 |rowE h ho hm=>exact one (.rowE h ho hm) rfl rfl
 |ptr h=>exact one (.ptr h) rfl rfl
 |eptr h ho=>exact one (.eptr h ho) rfl rfl
 |fn hl hl' h h'=>exact one (.fn hl hl' h h') rfl rfl
 |val=>simp[qat] at hpos
 | @both _ v a b h h' =>
  cases a with
  |sl c xs =>
   have hs:v.oneCell'=true∧v.cells=#[v]:=by cases h<;>exact⟨rfl,rfl⟩
   exact one (.both h h') hs.1 hs.2
  |_=>simp[qat] at hpos
 |wsl hn hm h0 h=>exact one (.wsl hn hm h0 h) rfl rfl
 |wref hb hn hx hc hf=>exact one (.wref hb hn hx hc hf) rfl rfl
 |anyb h=>exact one (.anyb h) rfl rfl
theorem qej (cs:List AV)(off:Nat)(vs:List AV)(h:off+vs.length≤cs.length):(qfg cs off vs).length=cs.length:=by
 simp[qfg,qcw,qcx];omega
theorem qk8 (cs:List AV) (off:Nat) (vs:List AV) (h:off+vs.length≤cs.length) (j:Nat) :
  nth (qfg cs off vs) j=if off≤j∧j<off+vs.length then nth vs (j-off) else nth cs j:=by
 simp only[qfg,qcw,qcx,qao]
 by_cases h1:j<off
 ·
  rw[if_neg (by omega),List.append_assoc,List.getElem?_append_left (by simp;omega),List.getElem?_take,if_pos h1]
 ·
  rw[List.append_assoc,List.getElem?_append_right (by simp;omega)]
  have e:(List.take off cs).length=off:=by simp;omega
  rw[e]
  by_cases h2:j<off+vs.length
  ·
   rw[if_pos (by omega),List.getElem?_append_left (by omega)]
  ·
   rw[if_neg (by omega),List.getElem?_append_right (by omega),List.getElem?_drop]
   congr 2
   omega
theorem q63 (off:Nat):∀ (l:List Value) (k:Nat) (cells:Array Value) (j:Nat),off+k+l.length≤cells.size →
  ((l.zipIdx k).foldl (fun cs (c,i)=>cs.setIfInBounds (off+i) c) cells).size=cells.size ∧
  ((l.zipIdx k).foldl (fun cs (c,i)=>cs.setIfInBounds (off+i) c) cells)[j]? = if off+k≤j∧j<off+k+l.length then l[j-off-k]? else cells[j]?:=by
 intro l
 induction l with
 |nil=>intro k cells j h;simp;intros;omega
 |cons c l ih =>
  intro k cells j h
  simp only[List.zipIdx_cons,List.foldl_cons]
  simp only[List.length_cons] at h
  obtain⟨h1,h2⟩:=ih (k+1) (cells.setIfInBounds (off+k) c) j (by simp;omega)
  refine⟨by rw[h1];simp,?_⟩
  rw[h2,Array.getElem?_setIfInBounds]
  simp only[List.length_cons]
  by_cases a1:off+(k+1)≤j∧j<off+(k+1)+l.length
  ·
   rw[if_pos a1,if_pos (by omega)]
   have:j-off-k=(j-off-(k+1))+1:=by omega
   rw[this,List.getElem?_cons_succ]
  ·
   rw[if_neg a1]
   by_cases a2:off+k=j
   ·
    subst a2
    rw[if_pos rfl,if_pos (by omega),if_pos (by omega)]
    have:off+k-off-k=0:=by omega
    rw[this];rfl
   ·
    rw[if_neg a2,if_neg (by omega)]
theorem qk9 (place:Nat→Option (Nat×Nat)) (f1:Operand→Value) (f2:Operand→AV) (hf:∀ x,Rep w im ρ (f1 x) (f2 x)) :
  ∀ (l:List (Nat×Operand)) (cells:Array Value) (cs res:List AV),CRep w im ρ cells cs→qfu place cs (l.map fun p=>(p.1,f2 p.2))=some res →
   ∃ out,Instr.fill place cells (l.map fun p=>(p.1,f1 p.2))=some out∧CRep w im ρ out res:=by
 intro l
 induction l with
 |nil =>
  intro cells cs res hc h
  simp only[List.map_nil,qfu,Option.some.injEq] at h
  subst h
  exact⟨cells,rfl,hc⟩
 |cons p l ih =>
  intro cells cs res hc h
  simp only[List.map_cons,qfu] at h
  split at h
  ·
   cases h
  ·
   rename_i off size hpl
   split at h
   ·
    rename_i hchk
    simp only[Bool.and_eq_true] at hchk
    obtain⟨⟨h1,h2⟩,h3⟩:=hchk
    have h1:=nbeq h1
    have h2:0<size:=by simpa [Nat.blt,Nat.succ_le_iff] using h2
    have h3:=Nat.le_of_ble_eq_true h3
    have hv:=qf1 (hf p.2) (by omega)
    obtain⟨v1,v2,v3⟩:=hv
    obtain⟨c1,c2,c3⟩:=hc
    have hfo:=q63 off (f1 p.2).cells.toList 0 cells
    simp only[Array.length_toList,Nat.add_zero,Nat.sub_zero] at hfo
    have hle:off+(f1 p.2).cells.size≤cells.size:=by omega
    have e0:((f1 p.2).cells.zipIdx.foldl (fun cs (c,j)=>cs.setIfInBounds (off+j) c) cells)=(((f1 p.2).cells.toList.zipIdx 0).foldl (fun cs (c,i)=>cs.setIfInBounds (off+i) c) cells):=by
     rw[← Array.foldl_toList,Array.toList_zipIdx]
    generalize hcells':(((f1 p.2).cells.toList.zipIdx 0).foldl (fun cs (c,i)=>cs.setIfInBounds (off+i) c) cells)=cells' at hfo e0
    have hcr:CRep w im ρ cells' (qfg cs off (qat (f2 p.2))):=by
     refine⟨by rw[(hfo 0 hle).1,qej _ _ _ (by omega)];exact c1,fun j v hj=>?_,fun j v hj=>?_⟩
     ·
      rw[(hfo j hle).2] at hj
      split at hj
      ·
       rw[Array.getElem?_toList] at hj;exact v2 _ _ hj
      ·
       exact c2 _ _ hj
     ·
      rw[(hfo j hle).2] at hj
      rw[qk8 _ _ _ (by omega)]
      split at hj
      ·
       rename_i hr
       rw[if_pos (by omega)]
       rw[Array.getElem?_toList] at hj;exact v3 _ _ hj
      ·
       rename_i hr
       rw[if_neg (by omega)]
       exact c3 _ _ hj
    obtain⟨out,ho,hr⟩:=ih cells' _ res hcr h
    refine⟨out,?_,hr⟩
    simp only[List.map_cons,Instr.fill,hpl]
    rw[if_neg (by simp;omega)]
    rw[e0];exact ho
   ·
    cases h
theorem qwU {t:TypeId}{z:List AV}(h:qbt P t=some z):∃ v,(∀ w:World,(zeroValue t).run P w=.ok v w)∧CRep w im ρ v.cells z:=by
 unfold qbt at h
 split at h
 ·
  rename_i i hi
  split at h
  ·
   rename_i v hv
   have hr:=qog w im ρ v
   refine⟨v,fun w=>by simp[zeroValue,typeInfo,hi,hv],?_⟩
   split at h
   ·
    rename_i l hl
    simp only[Option.some.injEq] at h;subst h
    rw[hl] at hr
    obtain⟨vs,rfl,h1,h2,h3⟩:=hr.inv_agg
    exact⟨h1,h2,h3⟩
   ·
    cases h
   ·
    cases h
   ·
    cases h
   ·
    cases h
   ·
    cases h
   ·
    rename_i h1 h2 h3 h4 h5 h6
    simp only[Option.some.injEq] at h;subst h
    have e:qat (qrm v)=[qrm v]:=by
     cases hx:qrm v<;>first|rfl|(exact absurd hx (h1 _))|(exact absurd hx h2)|(exact absurd hx (h3 _))|(exact absurd hx (h4 _ _ _))|(exact absurd hx (h5 _))|(exact absurd hx (h6 _ _))
    rw[← e]
    exact qf1 hr (by rw[e];simp)
  ·
   cases h
 ·
  cases h
theorem qdJ {t:TypeId}{z:List AV}(h:qbt P t=some z):∃ v,(zeroValue t).run P w=.ok v w∧CRep w im ρ v.cells z:=by
 unfold qbt at h
 split at h
 ·
  rename_i i hi
  split at h
  ·
   rename_i v hv
   have hr:=qog w im ρ v
   refine⟨v,by simp[zeroValue,typeInfo,hi,hv],?_⟩
   split at h
   ·
    rename_i l hl
    simp only[Option.some.injEq] at h;subst h
    rw[hl] at hr
    obtain⟨vs,rfl,h1,h2,h3⟩:=hr.inv_agg
    exact⟨h1,h2,h3⟩
   ·
    cases h
   ·
    cases h
   ·
    cases h
   ·
    cases h
   ·
    cases h
   ·
    rename_i h1 h2 h3 h4 h5 h6
    simp only[Option.some.injEq] at h;subst h
    have e:qat (qrm v)=[qrm v]:=by
     cases hx:qrm v<;>first|rfl|(exact absurd hx (h1 _))|(exact absurd hx h2)|(exact absurd hx (h3 _))|(exact absurd hx (h4 _ _ _))|(exact absurd hx (h5 _))|(exact absurd hx (h6 _ _))
    rw[← e]
    exact qf1 hr (by rw[e];simp)
  ·
   cases h
 ·
  cases h
theorem qiJ:∀ (l:List Field),qu7 P l=true →
  (l.mapM (m:=Sem) fun f=>do pure (f.offset,← sizeOf f.type)).run P w=.ok (l.map fun f=>(f.offset,qbM P f.type)) w
 | [],_=>by simp
 |f::l,h=>by
  simp only[qu7,Bool.and_eq_true] at h
  obtain⟨h1,h2⟩:=h
  cases hi:P.info? f.type with
  |none=>simp[hi] at h1
  |some i =>
   have ih:=qiJ l h2
   simp only[List.mapM_cons,Sem.run_bind,sizeOf,typeInfo,run_program,Result.andThen_ok,hi,Sem.run_pure] at ih ⊢
   rw[ih]
   simp[qbM,hi]
theorem q00 {t:TypeId} (f1:Operand→Value) (f2:Operand→AV) (hf:∀ x,Rep w im ρ (f1 x) (f2 x)) {parts:Array (Nat×Operand)} {v:AV}
  (h:q0r P t (parts.toList.map fun p=>(p.1,f2 p.2))=some v) :
  ∃ val,Run P w (Instr.build t (parts.map fun(i,x)=>(i,f1 x))) val∧Rep w im ρ val v:=by
 unfold q0r at h
 have e0:(parts.map fun(i,x)=>(i,f1 x)).toList=parts.toList.map fun p=>(p.1,f1 p.2):=by simp
 split at h
 ·
  rename_i z fs hz hu
  split at h
  ·
   rename_i hinf
   split at h
   ·
    rename_i cs hcs
    simp only[Option.some.injEq] at h;subst h
    obtain⟨zv,hzr,hzc⟩:=qwU (w:=w) (im:=im) (ρ:=ρ) hz
    obtain⟨out,ho,hout⟩:=qk9 _ f1 f2 hf parts.toList zv.cells z cs hzc hcs
    have hm:=fun w:World=>qiJ (P:=P) (w:=w) fs.toList hinf
    refine⟨.agg out,?_,.agg hout.1 hout.2.1 hout.2.2⟩
    intro w hw
    unfold Instr.build
    simp only[Sem.run_bind,hzr w,Result.andThen_ok,underlying,run_program,hu,Sem.run_pure]
    rw[Array.mapM_eq_mapM_toList]
    simp only[Sem.run_map,hm,Result.andThen_ok]
    have e1:(fun i:Nat=>(fs.toList.map fun f=>(f.offset,qbM P f.type)).toArray[i]?)=fun i:Nat=>(fs.toList.map fun f=>(f.offset,qbM P f.type))[i]?:=by
     funext i;simp
    rw[e1,e0,ho]
    rfl
   ·
    cases h
  ·
   cases h
 ·
  rename_i z n e hz hu
  split at h
  ·
   rename_i ie hie
   split at h
   ·
    rename_i cs hcs
    simp only[Option.some.injEq] at h;subst h
    obtain⟨zv,hzr,hzc⟩:=qwU (w:=w) (im:=im) (ρ:=ρ) hz
    obtain⟨out,ho,hout⟩:=qk9 _ f1 f2 hf parts.toList zv.cells z cs hzc hcs
    refine⟨.agg out,?_,.agg hout.1 hout.2.1 hout.2.2⟩
    intro w hw
    unfold Instr.build
    simp only[Sem.run_bind,hzr w,Result.andThen_ok,underlying,run_program,hu,Sem.run_pure,sizeOf,typeInfo,hie,e0,ho]
   ·
    cases h
  ·
   cases h
 ·
  cases h
theorem q4F {c x y:AV} {uc ux uy:Value} {pre:List DP} {v:AV} (hc:Rep w im ρ uc c) (hx:uc=.bool true→Rep w im ρ ux x) (hy:uc=.bool false→Rep w im ρ uy y)
  (h:q6l c x y=.ok pre v) (hp:AllD pre):∃ b,uc=.bool b∧Rep w im ρ (if b then ux else uy) v:=by
 unfold q6l at h
 split at h
 ·
  rename_i cb
  cases hc.inv_bool
  refine⟨cb,rfl,?_⟩
  split at h
  ·
   rename_i a b
   simp only[PR.ok.injEq] at h;obtain⟨rfl,rfl⟩:=h
   cases cb
   ·
    exact hy rfl
   ·
    exact hx rfl
  ·
   rename_i k a k' b
   split at h
   ·
    rename_i hk
    cases qaI hk
    simp only[PR.ok.injEq] at h;obtain⟨rfl,rfl⟩:=h
    cases cb
    ·
     exact hy rfl
    ·
     exact hx rfl
   ·
    cases h
  ·
   simp only[PR.ok.injEq] at h;obtain⟨rfl,rfl⟩:=h
   cases hp.1
   exact hy rfl
  ·
   simp only[PR.ok.injEq] at h;obtain⟨rfl,rfl⟩:=h
   cases hp.1
   exact hx rfl
  ·
   cases h
 ·
  cases h
theorem qiK (isMin:Bool):∀ (r:List AV) (us:List Value) (x:AV) (u:Value) (v:AV),Rep w im ρ u x→us.length=r.length→(∀ (j:Nat) (u:Value),us[j]? = some u→Rep w im ρ u (nth r j)) →
  q49 (if isMin then .min else .max) x r=some v→∃ val,Run P w (us.foldlM (if isMin then Builtin.min2 else Builtin.max2) u) val∧Rep w im ρ val v
 | [],us,x,u,v,hx,hl,_,h=>by
  have:us=[]:=List.eq_nil_of_length_eq_zero hl
  subst this
  have:v=x:=by
   cases x<;>simp[q49] at h<;>exact h.symm
  subst this
  exact⟨u,fun w hw=>by simp,hx⟩
 |y::r,[],_,_,_,_,hl,_,_=>by simp at hl
 |y::r,uy::us,x,u,v,hx,hl,hr,h=>by
  have hy:=hr 0 uy rfl
  simp only[nth] at hy
  unfold q49 at h
  split at h
  ·
   simp at *
  ·
   rename_i k a k' b r' heq
   simp only[List.cons.injEq] at heq
   obtain⟨rfl,rfl⟩:=heq
   split at h
   ·
    rename_i hk
    cases qaI hk
    obtain⟨rfl,wa⟩:=hx.inv_int
    obtain⟨rfl,wb⟩:=hy.inv_int
    have hr':∀ (j:Nat) (u:Value),us[j]? = some u→Rep w im ρ u (nth r j):=fun j u hu=>by
     have:=hr (j+1) u (by simpa using hu)
     simpa [nth] using this
    cases isMin with
    |true =>
     have e0:(if b<a then b else a)=min a b:=by omega
     obtain⟨val,h1,h2⟩:=qiK true r us _ (.int k (if b<a then b else a)) v (by rw[e0];exact .int (by rw[← e0];split<;>assumption)) (by simpa using hl) hr' h
     refine⟨val,fun w hw=>?_,h2⟩
     have h1:=h1 w hw
     simp only[List.foldlM_cons,Sem.run_bind,if_true,Builtin.min2,Sem.run_pure,Result.andThen_ok] at h1 ⊢
     exact h1
    |false =>
     have e0:(if b > a then b else a)=max a b:=by omega
     obtain⟨val,h1,h2⟩:=qiK false r us _ (.int k (if b > a then b else a)) v (by rw[e0];exact .int (by rw[← e0];split<;>assumption)) (by simpa using hl) hr' h
     refine⟨val,fun w hw=>?_,h2⟩
     have h1:=h1 w hw
     simp only[List.foldlM_cons,Sem.run_bind,Bool.false_eq_true,if_false,Builtin.max2,Sem.run_pure,Result.andThen_ok] at h1 ⊢
     exact h1
   ·
    cases h
  ·
   cases h
theorem qcd {t:TypeId} {d:TypeDesc} {xs:Array Value} {off:Nat} {v:Value} (hd:P.underlying t=some d) (ha:aggD d=false) (hv:xs[off]? = some v) :
  (part t xs off).run P w=.ok v w:=by
 unfold part
 simp[qoi (w:=w) hd,ha,hv]
theorem cell_at {xs:Array Value}{cs:List AV}(hx:CRep w im ρ xs cs){off:Nat}(h:nth cs off≠.dead):∃ v,xs[off]? = some v∧Rep w im ρ v (nth cs off):=by
 rcases Nat.lt_or_ge off xs.size with h1|h1
 ·
  exact⟨_,qar h1,hx.2.2 _ _ (qar h1)⟩
 ·
  exact absurd (qiG cs off (by rw[← hx.1];exact h1)) h
theorem qf2 {w':World} (d:Nat) {xs ys:Array Value} {cs ds:List AV} (hx:CRep w im ρ xs cs) (hy:CRep w im ρ ys ds) :
  ∀ (fs:List Field) (b:Bool),eqF P cs ds fs=some b→(Op.eqFields (d+1) xs ys fs).run P w'=.ok b w'
 | [],b,h=>by
  simp only[eqF,Option.some.injEq] at h
  subst h
  simp[Op.eqFields]
 |f::r,b,h=>by
  unfold eqF at h
  split at h
  ·
   rename_i k0 k a k' b' c hn hu h1 h2 hr
   split at h
   ·
    rename_i hk
    cases qaI hk
    simp only[Option.some.injEq] at h;subst h
    obtain⟨u,hu1,hu2⟩:=cell_at hx (off:=f.offset) (by rw[h1];simp)
    obtain⟨v,hv1,hv2⟩:=cell_at hy (off:=f.offset) (by rw[h2];simp)
    rw[h1] at hu2;rw[h2] at hv2
    obtain⟨rfl,-⟩:=hu2.inv_int
    obtain⟨rfl,-⟩:=hv2.inv_int
    have ih:=qf2 (w':=w') d hx hy r c hr
    simp only[Op.eqFields,if_pos (of_decide_eq_true hn),Sem.run_bind,qcd hu rfl hu1,qcd hu rfl hv1,Result.andThen_ok,run_equalIn_int w' d f.type k k0 a b' hu]
    cases hab:(a==b')<;>simp[ih]
   ·
    cases h
  ·
   rename_i a b' c hn hu h1 h2 hr
   simp only[Option.some.injEq] at h;subst h
   obtain⟨u,hu1,hu2⟩:=cell_at hx (off:=f.offset) (by rw[h1];simp)
   obtain⟨v,hv1,hv2⟩:=cell_at hy (off:=f.offset) (by rw[h2];simp)
   rw[h1] at hu2;rw[h2] at hv2
   cases hu2.inv_bool
   cases hv2.inv_bool
   have ih:=qf2 (w':=w') d hx hy r c hr
   simp only[Op.eqFields,if_pos (of_decide_eq_true hn),Sem.run_bind,qcd hu rfl hu1,qcd hu rfl hv1,Result.andThen_ok,run_equalIn_bool' w' d f.type a b' hu]
   cases hab:(a==b')<;>simp[ih]
  ·
   rename_i a b' c hn hu h1 h2 hr
   simp only[Option.some.injEq] at h;subst h
   obtain⟨u,hu1,hu2⟩:=cell_at hx (off:=f.offset) (by rw[h1];simp)
   obtain⟨v,hv1,hv2⟩:=cell_at hy (off:=f.offset) (by rw[h2];simp)
   rw[h1] at hu2;rw[h2] at hv2
   obtain⟨rfl,-⟩:=hu2.inv_str
   obtain⟨rfl,-⟩:=hv2.inv_str
   have ih:=qf2 (w':=w') d hx hy r c hr
   simp only[Op.eqFields,if_pos (of_decide_eq_true hn),Sem.run_bind,qcd hu rfl hu1,qcd hu rfl hv1,Result.andThen_ok,run_equalIn_string w' d f.type a b' hu,ByteArray.toList_eq]
   cases hab:(a.data.toList==b'.data.toList)<;>simp[ih]
  ·
   cases h
theorem qwV {op:BinOp}{t:TypeId}{x y:Operand}{k k':IntKind}{a b:Int}:(eqGuard op t x y (.int k a) (.int k' b)).run P w=.ok () w:=by cases op<;>simp[eqGuard]
theorem q4G {op:BinOp}{t:TypeId}{x y:Operand}{a b:Bool}:(eqGuard op t x y (.bool a) (.bool b)).run P w=.ok () w:=by cases op<;>simp[eqGuard]
theorem q64 {op:BinOp}{t:TypeId}{x y:Operand}{a b:ByteArray}:(eqGuard op t x y (.string a) (.string b)).run P w=.ok () w:=by cases op<;>simp[eqGuard]
theorem qce {op:BinOp}{t:TypeId}{x y:Operand}{a b:Option Addr}:(eqGuard op t x y (.pointer a) (.pointer b)).run P w=.ok () w:=by cases op<;>simp[eqGuard]
theorem qng {op:BinOp}{t:TypeId}{x y:Operand}{a b:Option Addr}{l l' c c':Nat}:(eqGuard op t x y (.slice a l c) (.slice b l' c')).run P w=.ok () w:=by cases op<;>simp[eqGuard]
theorem q2U (d:Nat) {t e:TypeId} {a:Option Addr} (ht:P.underlying t=some (.pointer e)) :
  (Op.equalIn (d+1) t (.pointer a) (.pointer none)).run P w=.ok a.isNone w:=by
 cases a<;>simp[Op.equalIn,underlying,ht]
theorem q65 (d:Nat) {t e:TypeId} {a:Option Addr} {n c:Nat} (ht:P.underlying t=some (.slice e)) :
  (Op.equalIn (d+1) t (.slice a n c) (.slice none 0 0)).run P w=.ok a.isNone w:=by
 cases a<;>simp[Op.equalIn,underlying,ht]
theorem quJ {t e:TypeId}{a:Option Addr}(ht:P.underlying t=some (.pointer e)):(Go.binOp .eql t (.pointer a) (.pointer none)).run P w=.ok (.bool a.isNone) w:=by
 have:=q2U (P:=P) (w:=w) 9999 (a:=a) ht
 show ((do pure (.bool (← Op.equal t (.pointer a) (.pointer none))):Sem Value)).run P w=_
 simp only[Op.equal,Op.maxDepth,Sem.run_bind,this,Result.andThen_ok,Sem.run_pure]
theorem quK {t e:TypeId}{a:Option Addr}(ht:P.underlying t=some (.pointer e)):(Go.binOp .neq t (.pointer a) (.pointer none)).run P w=.ok (.bool (!a.isNone)) w:=by
 have:=q2U (P:=P) (w:=w) 9999 (a:=a) ht
 show ((do pure (.bool (!(← Op.equal t (.pointer a) (.pointer none)))):Sem Value)).run P w=_
 simp only[Op.equal,Op.maxDepth,Sem.run_bind,this,Result.andThen_ok,Sem.run_pure]
theorem sl_eql {t e:TypeId}{a:Option Addr}{n c:Nat}(ht:P.underlying t=some (.slice e)):(Go.binOp .eql t (.slice a n c) (.slice none 0 0)).run P w=.ok (.bool a.isNone) w:=by
 have:=q65 (P:=P) (w:=w) 9999 (a:=a) (n:=n) (c:=c) ht
 show ((do pure (.bool (← Op.equal t (.slice a n c) (.slice none 0 0))):Sem Value)).run P w=_
 simp only[Op.equal,Op.maxDepth,Sem.run_bind,this,Result.andThen_ok,Sem.run_pure]
theorem sl_neq {t e:TypeId}{a:Option Addr}{n c:Nat}(ht:P.underlying t=some (.slice e)):(Go.binOp .neq t (.slice a n c) (.slice none 0 0)).run P w=.ok (.bool (!a.isNone)) w:=by
 have:=q65 (P:=P) (w:=w) 9999 (a:=a) (n:=n) (c:=c) ht
 show ((do pure (.bool (!(← Op.equal t (.slice a n c) (.slice none 0 0)))):Sem Value)).run P w=_
 simp only[Op.equal,Op.maxDepth,Sem.run_bind,this,Result.andThen_ok,Sem.run_pure]
theorem qmR {P:Program} (w:World) (d:Nat) (t e:TypeId) (k0 k:IntKind) (x0 x1 y0 y1:Int) {i:TypeInfo} (ht:P.underlying t=some (.array 2 e)) (he:P.underlying e=some (.int k0)) (hi:P.info? e=some i) (hs:i.size=1) :
  (Op.equalIn (d+2) t (.agg #[.int k x0,.int k x1]) (.agg #[.int k y0,.int k y1])).run P w=.ok ((x0==y0)&&(x1==y1)) w:=by
 have p0:∀ (a b:Int) (w:World),(part e #[.int k a,.int k b] 0).run P w=.ok (.int k a) w:=fun a b w=>qcd he rfl rfl
 have p1:∀ (a b:Int) (w:World),(part e #[.int k a,.int k b] 1).run P w=.ok (.int k b) w:=fun a b w=>qcd he rfl rfl
 rw[Op.equalIn]
 simp[Sem.run_bind,run_underlying ht,Result.andThen_ok,sizeOf,typeInfo,hi,hs,Std.Legacy.Range.forIn_eq_forIn_range',Std.Legacy.Range.size,List.range',p0,p1,run_equalIn_int _ d e k k0 _ _ he]
 by_cases h0:x0=y0<;>by_cases h1:x1=y1<;>simp[h0,h1]
theorem q66 {P:Program} {n:Nat} {t e:TypeId} {xs ys:List AV} {b:Bool} {vs us:Array Value} {w:World} {im:Nat→Prop} {ρ:Ids} (ht:P.underlying t=some (.array n e)) (hx:CRep w im ρ vs xs) (hy:CRep w im ρ us ys) (h:eqA2 P n e xs ys=some b) (w':World) :
  (Op.equalIn 10000 t (.agg vs) (.agg us)).run P w'=.ok b w':=by
 unfold eqA2 at h
 split at h
 ·
  rename_i k a k1 b' k2 c k3 d
  split at h
  ·
   rename_i k0 hc he
   simp only[Bool.and_eq_true] at hc
   obtain⟨⟨⟨⟨h1,h2⟩,h3⟩,h4⟩,h5⟩:=hc
   cases qaI h2;cases qaI h3;cases qaI h4
   have h1:=Nat.eq_of_beq_eq_true h1
   subst h1
   simp only[Option.some.injEq] at h;subst h
   split at h5
   ·
    rename_i i hi
    obtain⟨u0,g0,r0⟩:=cell_at hx (off:=0) (by simp[nth])
    obtain⟨u1,g1,r1⟩:=cell_at hx (off:=1) (by simp[nth])
    obtain⟨v0,q0,t0⟩:=cell_at hy (off:=0) (by simp[nth])
    obtain⟨v1,q1,t1⟩:=cell_at hy (off:=1) (by simp[nth])
    obtain⟨rfl,-⟩:=r0.inv_int
    obtain⟨rfl,-⟩:=r1.inv_int
    obtain⟨rfl,-⟩:=t0.inv_int
    obtain⟨rfl,-⟩:=t1.inv_int
    have ev:vs=#[.int k a,.int k b']:=by
     refine Array.ext (by have:=hx.1;simpa using this) fun j h1 h2=>?_
     have hj:j=0∨j=1:=by simp at h2;omega
     rcases hj with rfl|rfl
     ·
      exact Option.some.inj ((Array.getElem?_eq_getElem h1).symm.trans g0)
     ·
      exact Option.some.inj ((Array.getElem?_eq_getElem h1).symm.trans g1)
    have eu:us=#[.int k c,.int k d]:=by
     refine Array.ext (by have:=hy.1;simpa using this) fun j h1 h2=>?_
     have hj:j=0∨j=1:=by simp at h2;omega
     rcases hj with rfl|rfl
     ·
      exact Option.some.inj ((Array.getElem?_eq_getElem h1).symm.trans q0)
     ·
      exact Option.some.inj ((Array.getElem?_eq_getElem h1).symm.trans q1)
    rw[ev,eu]
    exact qmR w' 9998 t e k0 k a b' c d ht he hi (Nat.eq_of_beq_eq_true h5)
   ·
    cases h5
  ·
   cases h
 ·
  cases h
theorem q67 {op:BinOp} {t:TypeId} {ox oy:Operand} {x y:AV} {u u':Value} {pre:List DP} {v:AV} (hx:Rep w im ρ u x) (hy:Rep w im ρ u' y)
  (h:binAV P op t x y=.ok pre v) (hp:AllD pre) :
  ∃ val,Run P w (do eqGuard op t ox oy u u';Go.binOp op t u u':Sem Value) val∧Rep w im ρ val v:=by
 unfold binAV at h
 split at h
 ·
  rename_i k a k' b
  obtain⟨rfl,wa⟩:=hx.inv_int
  obtain⟨rfl,wb⟩:=hy.inv_int
  have hg:∀ w:World,(eqGuard op t ox oy (.int k a) (.int k' b)).run P w=.ok () w:=fun w=>qwV
  split at h
  ·
   obtain⟨val,h1,h2⟩:=q0y (P:=P) (w:=w) (im:=im) (ρ:=ρ) (t:=t) (k':=k') wa h hp
   exact⟨val,fun w hw=>by simp only[Sem.run_bind,hg,Result.andThen_ok];exact h1 w hw,h2⟩
  ·
   rename_i hs
   split at h
   ·
    rename_i hk
    cases qaI hk
    obtain⟨val,h1,h2⟩:=qlW (P:=P) (w:=w) (im:=im) (ρ:=ρ) (t:=t) wa hs h hp
    exact⟨val,fun w hw=>by simp only[Sem.run_bind,hg,Result.andThen_ok];exact h1 w hw,h2⟩
   ·
    cases h
 ·
  rename_i a b
  cases hx.inv_bool
  cases hy.inv_bool
  have hg:∀ w:World,(eqGuard op t ox oy (.bool a) (.bool b)).run P w=.ok () w:=fun w=>q4G
  split at h<;>(try (cases h;done))<;>rename_i hu<;>simp only[PR.ok.injEq] at h<;>obtain⟨rfl,rfl⟩:=h
  ·
   exact⟨_,fun w hw=>by simp only[Sem.run_bind,hg,Result.andThen_ok,Go.binOp,Op.equal,Op.maxDepth,Sem.run_bind,run_equalIn_bool' w 9999 t a b hu,Result.andThen_ok,Sem.run_pure],.bool⟩
  ·
   exact⟨_,fun w hw=>by simp only[Sem.run_bind,hg,Result.andThen_ok,Go.binOp,Op.equal,Op.maxDepth,Sem.run_bind,run_equalIn_bool' w 9999 t a b hu,Result.andThen_ok,Sem.run_pure],.bool⟩
 ·
  rename_i a b
  obtain⟨rfl,-⟩:=hx.inv_str
  obtain⟨rfl,-⟩:=hy.inv_str
  have hg:∀ w:World,(eqGuard op t ox oy (.string a) (.string b)).run P w=.ok () w:=fun w=>q64
  split at h<;>(try (cases h;done))<;>simp only[PR.ok.injEq] at h<;>obtain⟨rfl,rfl⟩:=h
  ·
   exact⟨_,fun w hw=>by simp[hg,Go.binOp,Op.stringOp,ByteArray.toList_eq],.bool⟩
  ·
   exact⟨_,fun w hw=>by simp[hg,Go.binOp,Op.stringOp,ByteArray.toList_eq],.bool⟩
 case h_4 =>
  obtain⟨a,rfl⟩:∃ a,u=.pointer (some a):=by cases hx<;>exact⟨_,rfl⟩
  cases hy.inv_nilptr
  split at h<;>(try (cases h;done))<;>rename_i hu<;>simp only[PR.ok.injEq] at h<;>obtain⟨rfl,rfl⟩:=h
  ·
   exact⟨_,fun w hw=>by simp only[Sem.run_bind,qce,Result.andThen_ok];exact quJ hu,.bool⟩
  ·
   exact⟨_,fun w hw=>by simp only[Sem.run_bind,qce,Result.andThen_ok];exact quK hu,.bool⟩
 case h_5 =>
  obtain⟨a,rfl⟩:∃ a,u=.pointer (some a):=by cases hx<;>exact⟨_,rfl⟩
  cases hy.inv_nilptr
  split at h<;>(try (cases h;done))<;>rename_i hu<;>simp only[PR.ok.injEq] at h<;>obtain⟨rfl,rfl⟩:=h
  ·
   exact⟨_,fun w hw=>by simp only[Sem.run_bind,qce,Result.andThen_ok];exact quJ hu,.bool⟩
  ·
   exact⟨_,fun w hw=>by simp only[Sem.run_bind,qce,Result.andThen_ok];exact quK hu,.bool⟩
 case h_6 =>
  obtain⟨a,rfl⟩:∃ a,u=.pointer (some a):=by cases hx<;>exact⟨_,rfl⟩
  cases hy.inv_nilptr
  split at h<;>(try (cases h;done))<;>rename_i hu<;>simp only[PR.ok.injEq] at h<;>obtain⟨rfl,rfl⟩:=h
  ·
   exact⟨_,fun w hw=>by simp only[Sem.run_bind,qce,Result.andThen_ok];exact quJ hu,.bool⟩
  ·
   exact⟨_,fun w hw=>by simp only[Sem.run_bind,qce,Result.andThen_ok];exact quK hu,.bool⟩
 case h_7 =>
  cases hx.inv_nilptr
  cases hy.inv_nilptr
  split at h<;>(try (cases h;done))<;>rename_i hu<;>simp only[PR.ok.injEq] at h<;>obtain⟨rfl,rfl⟩:=h
  ·
   exact⟨_,fun w hw=>by simp only[Sem.run_bind,qce,Result.andThen_ok];exact quJ hu,.bool⟩
  ·
   exact⟨_,fun w hw=>by simp only[Sem.run_bind,qce,Result.andThen_ok];exact quK hu,.bool⟩
 case h_8 =>
  cases hx.inv_nilsl
  cases hy.inv_nilsl
  split at h<;>(try (cases h;done))<;>rename_i hu<;>simp only[PR.ok.injEq] at h<;>obtain⟨rfl,rfl⟩:=h
  ·
   exact⟨_,fun w hw=>by simp only[Sem.run_bind,qng,Result.andThen_ok];exact sl_eql hu,.bool⟩
  ·
   exact⟨_,fun w hw=>by simp only[Sem.run_bind,qng,Result.andThen_ok];exact sl_neq hu,.bool⟩
 case h_9 =>
  rename_i xs ys
  obtain⟨vs,rfl,x1,x2,x3⟩:=hx.inv_agg
  obtain⟨us,rfl,y1,y2,y3⟩:=hy.inv_agg
  split at h
  ·
   rename_i fs hu
   have hfs:P.underlying t=some (.struct (P.fieldsOf t)):=by simp[Program.fieldsOf,hu]
   have hfs':P.fieldsOf t=fs:=by simp[Program.fieldsOf,hu]
   split at h
   ·
    rename_i b hc he
    simp only[Bool.and_eq_true,Bool.not_eq_true'] at hc
    simp only[PR.ok.injEq] at h;obtain⟨rfl,rfl⟩:=h
    have hf:=fun w':World=>qf2 (P:=P) (w:=w) (w':=w') 9998 ⟨x1,x2,x3⟩ ⟨y1,y2,y3⟩ fs.toList b he
    refine⟨.bool b,fun w hw=>?_,.bool⟩
    simp only[Sem.run_bind,run_eqGuard_agg w _ _ _ _ _ _ hc.2,Result.andThen_ok,run_eql_struct,run_equalIn_struct w 9999 t _ _ hfs hc.1,hfs',hf]
   ·
    rename_i b hc he
    simp only[Bool.and_eq_true,Bool.not_eq_true'] at hc
    simp only[PR.ok.injEq] at h;obtain⟨rfl,rfl⟩:=h
    have hf:=fun w':World=>qf2 (P:=P) (w:=w) (w':=w') 9998 ⟨x1,x2,x3⟩ ⟨y1,y2,y3⟩ fs.toList b he
    refine⟨.bool (!b),fun w hw=>?_,.bool⟩
    simp only[Sem.run_bind,run_eqGuard_agg w _ _ _ _ _ _ hc.2,Result.andThen_ok,run_neq_struct,run_equalIn_struct w 9999 t _ _ hfs hc.1,hfs',hf]
   ·
    cases h
  ·
   rename_i n e hu
   split at h
   ·
    rename_i b hc he
    simp only[Bool.not_eq_true'] at hc
    simp only[PR.ok.injEq] at h;obtain⟨rfl,rfl⟩:=h
    refine⟨.bool b,fun w' hw=>?_,.bool⟩
    simp only[Sem.run_bind,run_eqGuard_agg w' _ _ _ _ _ _ hc,Result.andThen_ok,run_eql_struct,q66 hu ⟨x1,x2,x3⟩ ⟨y1,y2,y3⟩ he w']
   ·
    rename_i b hc he
    simp only[Bool.not_eq_true'] at hc
    simp only[PR.ok.injEq] at h;obtain⟨rfl,rfl⟩:=h
    refine⟨.bool (!b),fun w' hw=>?_,.bool⟩
    simp only[Sem.run_bind,run_eqGuard_agg w' _ _ _ _ _ _ hc,Result.andThen_ok,run_neq_struct,q66 hu ⟨x1,x2,x3⟩ ⟨y1,y2,y3⟩ he w']
   ·
    cases h
  ·
   cases h
 case h_10 =>
  rename_i b
  obtain⟨a,rfl,wa⟩:∃ a,u=.int .u8 a∧kwf .u8 a:=by cases hx with|anyb h=>exact⟨_,rfl,h⟩
  obtain⟨rfl,wb⟩:=hy.inv_int
  have hg:∀ w:World,(eqGuard op t ox oy (.int .u8 a) (.int .u8 b)).run P w=.ok () w:=fun w=>qwV
  split at h
  ·
   simp only[PR.ok.injEq] at h;obtain⟨rfl,rfl⟩:=h
   obtain⟨val,h1,h2⟩:=qlW (P:=P) (w:=w) (im:=im) (ρ:=ρ) (t:=t) (op:=.add) (y:=b) wa rfl (rfl:q2M .add .u8 a b=.ok [] _) trivial
   obtain⟨rfl,h3⟩:=h2.inv_int
   exact⟨_,fun w hw=>by simp only[Sem.run_bind,hg,Result.andThen_ok];exact h1 w hw,.anyb h3⟩
  ·
   cases h
 case h_11=>cases h
end pop
end Go.Eng
