import Derived.Test.YtcdppfnjidlknaaGreatDoorYae
set_option linter.unusedVariables false
set_option linter.unusedSimpArgs false
namespace Go.Eng
open Go
section
variable {w0 : World} {bor : Bor} {im0 im : Nat → Prop} {ρ : Ids} {σ : AS} {a : Act} {w : World}
theorem qgo {P:Program}{t e:TypeId}(h:qhO P t=some e):P.underlying t=some (.slice e):=by
 unfold qhO at h
 split at h
 ·
  simp only[Option.some.injEq] at h;subst h;assumption
 ·
  cases h
theorem dead_nth (n j:Nat):nth ((List.range n).map fun _=>AV.dead) j=.dead:=by
 rcases Nat.lt_or_ge j n with h|h
 ·
  rw[quE _ _ _ j (by simp[h])]
 ·
  exact qiG _ _ (by simpa using h)
theorem qf5 {zs:Array Value} (hpos:0<zs.size) (hone:∀ (j:Nat) (v:Value),zs[j]? = some v→v.oneCell'=true) (n j:Nat) (v:Value)
  (h:((Array.range n).map (zs[· % zs.size]!))[j]? = some v):j<n∧v=zs[j % zs.size]!∧v.oneCell'=true:=by
 have hj:j<n:=by have:=qf0 h;simpa using this
 have hm:j % zs.size<zs.size:=Nat.mod_lt _ hpos
 have hv:v=zs[j % zs.size]!:=by
  rw[Array.getElem?_map] at h
  simp[hj] at h
  exact h.symm
 refine⟨hj,hv,?_⟩
 subst hv
 refine hone (j % zs.size) _ ?_
 simp[hm]
theorem qf6 (w:World)(c:Array Value)(e:TypeId):(w.alloc (.cells c e)).shape? w.heap.size=some (e,c.size):=by
 unfold World.shape?;rw[qoo]
theorem q6D {n:Int}(h:kwf .i64 n):IntKind.i64.wrap n=n:=by
 simp[kwf,IntKind.min,IntKind.max,IntKind.signed,IntKind.bits] at h
 simp[IntKind.wrap,IntKind.signed,IntKind.bits]
 split<;>omega
theorem qmS {env:Env} (h:SA w0 bor im0 im ρ σ a w) {o:Oper} {t:TypeId} {len:Nat} {parts:Array (Nat×Operand)} (ho:o.op=.buildSlice t len parts) {id:Nat} {k:AS→Prop} {next:Act→World→Prop} {Q:Exit→Act→World→Prop} {g:Gd}
  (hg:GdOK a g) (hv:eop env σ g o id k) (hn:Then (qb9 env) w o w0 bor im0 k next):o.wp env.P a w next Q:=by
 unfold eop at hv
 rw[ho] at hv
 dsimp only at hv
 split at hv
 ·
  rename_i e he hcl hab
  obtain⟨c,hv⟩:∃ c,qfy env σ g o id len parts e c k:=by
   split at hv<;>exact⟨_,hv⟩
  unfold qfy at hv
  dsimp only at hv
  split at hv
  ·
   exact hv.elim
  ·
   rename_i hchk
   simp only[Bool.and_eq_true] at hchk
   obtain⟨⟨c1,c2⟩,c3⟩:=hchk
   obtain⟨i,hi,hsz,hpos⟩:=qaw c1
   have c2:=Nat.le_of_ble_eq_true c2
   split at c3
   case h_2=>cases c3
   rename_i z hz
   have c3:=nbeq c3
   generalize hl:idsL (List.map (fun x=>x.2) (List.map (fun p=>(p.1,σ.ev g p.2)) parts.toList)) []=l at hv
   obtain⟨im',ρ',h',hsub,habs,hfz,hkρ⟩:=h.freezeL l
   split at hv
   ·
    exact hv.elim
   ·
    rename_i cs hfill
    split at hv
    ·
     rename_i xs hdec
     obtain⟨zv,hzr,hzc⟩:=qdJ (w:=w) (im:=im') (ρ:=ρ') hz
     have hzs:zv.cells.size=szOf c:=by rw[hzc.1,c3]
     have hinit:CRep w im' ρ' ((Array.range (len*szOf c)).map (zv.cells[· % zv.cells.size]!)) ((List.range (len*szOf c)).map fun _=>AV.dead):=by
      refine⟨by simp,fun j v hj=>(qf5 (by omega) hzc.2.1 _ j v hj).2.2,fun j v hj=>?_⟩
      rw[dead_nth];exact .dead
     obtain⟨out,hout,hor⟩:=qk9 (w:=w) (im:=im') (ρ:=ρ') (fun i=>some (i*szOf c,szOf c)) a.eval (fun x=>AS.fzv l σ (σ.ev g x)) (fun x=>hfz _ _ (h.ev hg x)) parts.toList _ _ cs hinit hfill
     obtain⟨d1,d2⟩:=qiN (w:=w) (im:=im') (ρ:=ρ') c hpos _ _ _ hdec
     have hcl1:cs.length=len*szOf c:=by
      have:∀ (ps:List (Nat×AV)) (ini res:List AV),qfu (fun i=>some (i*szOf c,szOf c)) ini ps=some res→res.length=ini.length:=by
       intro ps
       induction ps with
       |nil=>intro ini res hh;simp only[qfu,Option.some.injEq] at hh;rw[← hh]
       |cons p ps ih =>
        intro ini res hh
        simp only[qfu] at hh
        split at hh
        ·
         rename_i hck
         simp only[Bool.and_eq_true] at hck
         rw[ih _ _ hh,qej _ _ _ (by have:=nbeq hck.1.1;have:=Nat.le_of_ble_eq_true hck.2;omega)]
        ·
         cases hh
      rw[this _ _ _ hfill];simp
     have hxl:xs.length=len:=by
      have:xs.length*szOf c=len*szOf c:=by rw[← d1,hcl1]
      exact Nat.eq_of_mul_eq_mul_right hpos this
     have hml:len≤maxLen:=by
      have:len*1≤len*szOf c:=Nat.mul_le_mul_left _ hpos
      unfold maxLen;omega
     have hB:=h'.rowDec hpos hor hdec (by omega) e
     have h1:=h'.new (habs _ (qaJ hab)) (qbi hab) hB
     refine qaN (v:=.slice (some ⟨w.heap.size,0,none⟩) len len) (w':=w.alloc (.cells out e)) ?_ (hn _ _ _ _ _ (quM hv) (h1.put ((qiP _ _ _).trans hcl) ?_) fun _=>qiO _ _)
     ·
      have e0:(parts.map fun(i,x)=>(i,a.eval x)).toList=parts.toList.map fun p=>(p.1,a.eval p.2):=by simp
      have hlt:¬ 16777216<len*szOf c:=by omega
      by_cases h0:len*szOf c=0
      ·
       simp only[execOp,ho,Instr.buildSlice,Sem.run_bind,run_underlying (qgo he),Result.andThen_ok,sizeOf,typeInfo,run_program,hi,Sem.run_pure,hsz]
       rw[if_neg hlt,if_pos h0]
       rw[h0] at hout
       simp only[h0,Sem.run_bind,Result.andThen_ok,Sem.run_pure,e0]
       have e9:∀ f:Nat→Value,(Array.range 0).map f=#[]:=fun f=>by simp
       simp only[e9] at hout ⊢
       rw[hout]
       simp[newRow]
      ·
       simp only[execOp,ho,Instr.buildSlice,Sem.run_bind,run_underlying (qgo he),Result.andThen_ok,sizeOf,typeInfo,run_program,hi,Sem.run_pure,hsz]
       rw[if_neg hlt,if_neg h0]
       simp only[Sem.run_bind,hzr,Result.andThen_ok,Sem.run_pure,e0,hout]
       simp only[newRow,Sem.run_bind,run_newObj,Result.andThen_ok,Sem.run_pure]
       rfl
     ·
      refine .row (x:=0) (qbk _ _ _) (by omega) (by simp) (Nat.le_refl _) hml (e:=e) ?_
      rw[qf6,hor.1,hcl1,Nat.zero_add,Nat.add_zero]
    ·
     exact hv.elim
 ·
  exact hv.elim
theorem qop {env:Env} (h:SA w0 bor im0 im ρ σ a w) {o:Oper} {t:TypeId} {ln cp:Operand} (ho:o.op=.makeSlice t ln cp) {id:Nat} {k:AS→Prop} {next:Act→World→Prop} {Q:Exit→Act→World→Prop} {g:Gd}
  (hg:GdOK a g) (hv:eop env σ g o id k) (hn:Then (qb9 env) w o w0 bor im0 k next):o.wp env.P a w next Q:=by
 unfold eop at hv
 rw[ho] at hv
 dsimp only at hv
 split at hv
 ·
  rename_i e n m he hcl hab hln hcp
  split at hv
  ·
   rename_i z c1 hz
   obtain⟨i,hi,hsz,hpos⟩:=qaw c1
   split at hv
   ·
    rename_i x hx
    obtain⟨⟨b1,b2,b3⟩,hv⟩:=qcL hv
    have r1:=h.ev hg ln;rw[hln] at r1
    have r2:=h.ev hg cp;rw[hcp] at r2
    obtain⟨e1,k1⟩:=r1.inv_int
    obtain⟨e2,k2⟩:=r2.inv_int
    obtain⟨zv,hzr,hzc⟩:=qdJ (w:=w) (im:=im) (ρ:=ρ) hz
    obtain⟨d1,d2⟩:=qhC (w:=w) (im:=im) (ρ:=ρ) _ _ x hx
    have hzs:zv.cells.size=szOf (env.code e):=by rw[hzc.1,d1]
    have hbytes:env.P.bytesOf e=i.bytes:=by simp[Program.bytesOf,hi]
    rw[hbytes] at b3
    generalize hcur:(Array.range (m.toNat*szOf (env.code e))).map (zv.cells[· % zv.cells.size]!)=cur
    have hcs:cur.size=m.toNat*szOf (env.code e):=by rw[← hcur];simp
    have hz1:=fun j v=>qf5 (zs:=zv.cells) (by omega) hzc.2.1 (m.toNat*szOf (env.code e)) j v
    rw[hcur] at hz1
    have hmm:m.toNat≤maxLen:=by
     have:=k2.2
     simp[IntKind.max,IntKind.signed,IntKind.bits] at this
     unfold maxLen;omega
    have hB:BRep (w.alloc (.cells cur e)) im ρ (some w.heap.size,(List.replicate n.toNat x).length) (.row (env.code e) (List.replicate n.toNat x)):=by
     refine h.row m.toNat hcs (by simp;omega) hmm (fun j v hj=>(hz1 j v hj).2.2) (fun i' j y v hy hj hv'=>?_) e
     have hy':y=x:=by
      rw[List.getElem?_replicate] at hy
      split at hy
      ·
       exact(Option.some.inj hy).symm
      ·
       cases hy
     subst hy'
     refine d2 j v hj (hzc.2.2 j v ?_)
     obtain⟨-,h2,-⟩:=hz1 _ v hv'
     have hm:(i'*szOf (env.code e)+j) % zv.cells.size=j:=by
      rw[hzs,Nat.add_comm,Nat.add_mul_mod_self_right];exact Nat.mod_eq_of_lt hj
     rw[hm] at h2
     have:j<zv.cells.size:=by omega
     rw[h2]
     simp[this]
    have h1:=h.new (qaJ hab) (qbi hab) hB
    refine qaN (v:=.slice (some ⟨w.heap.size,0,none⟩) n.toNat m.toNat) (w':=w.alloc (.cells cur e)) ?_ (hn _ _ _ _ _ (qsa (quM hv)) (h1.put hcl ?_) fun _=>qiO _ _)
    ·
     have w1:=q6D k1
     have w2:=q6D k2
     have t1:(m<0||(i.bytes:Int)*m > 2 ^ 48)=false:=by
      have:¬ m<0:=by omega
      have h48:¬ (i.bytes:Int)*m > 2 ^ 48:=by
       rw[Int.mul_comm];omega
      rw[decide_eq_false h48,Bool.or_false]
      exact decide_eq_false this
     have t2:¬ n<0:=by omega
     have t3:¬ m<n:=by omega
     simp only[execOp,ho,Instr.makeSlice,Sem.run_bind,run_underlying (qgo he),Result.andThen_ok,e1,e2,asInt,asIntOf,Sem.run_pure,typeInfo,run_program,hi,w1,w2,t1,t2,t3]
     simp only[decide_false,Bool.or_false,Bool.false_eq_true,if_false,gt_iff_lt,t3,Bool.or_self,run_askRoom,Sem.run_bind,Result.andThen_ok,sizeOf,typeInfo,run_program,hi,Sem.run_pure,hsz]
     by_cases h0:m.toNat*szOf (env.code e)=0
     ·
      rw[if_pos h0]
      have e9:cur=#[]:=by
       rw[← hcur,h0];simp
      have e8:∀ f:Nat→Value,(Array.range 0).map f=#[]:=fun f=>by simp
      simp[h0,e9,newRow,-Array.map_const_fun]
      simp only[e8]
     ·
      rw[if_neg h0]
      simp only[Sem.run_bind,hzr,Result.andThen_ok,Sem.run_pure,hcur,newRow,run_newObj]
      rfl
    ·
     refine .row (x:=0) (qbk _ _ _) (by simp) (by simp) (by omega) hmm (e:=e) ?_
     rw[qf6,hcs,Nat.zero_add,Nat.add_zero]
   ·
    exact hv.elim
  ·
   exact hv.elim
 ·
  exact hv.elim
theorem q4I {env:Env} (h:SA w0 bor im0 im ρ σ a w) {o:Oper} {op:BinOp} {t t':TypeId} {x y:Operand} (ho:o.op=.binOp op t x y t') {id:Nat} {k:AS→Prop} {next:Act→World→Prop} {Q:Exit→Act→World→Prop} {g:Gd}
  (hg:GdOK a g) (hv:eop env σ g o id k) (hn:Then (qb9 env) w o w0 bor im0 k next):o.wp env.P a w next Q:=by
 unfold eop at hv
 rw[ho] at hv
 dsimp only at hv
 have hx:=h.ev hg x
 have hy:=h.ev hg y
 have fE:∀ {e:TypeId} {ad:Option Addr} {n cp:Nat},env.P.underlying t=some (.slice e)→op=.eql→a.eval x=.slice ad n cp→a.eval y=.slice none 0 0→σ.clash o.dst=false→k (σ.put o.dst none (.bool ad.isNone))→o.wp env.P a w next Q:=by
  intro e ad n cp ht hop hax hy hcl hk
  subst hop
  refine qaN (v:=.bool ad.isNone) (w':=w) ?_ (hn _ _ _ _ _ hk (h.put hcl .bool) fun _=>Agr.refl _)
  simp only[execOp,ho,hax,hy,Sem.run_bind,qng,Result.andThen_ok,sl_eql ht,Sem.run_pure]
 have fN:∀ {e:TypeId} {ad:Option Addr} {n cp:Nat},env.P.underlying t=some (.slice e)→op=.neq→a.eval x=.slice ad n cp→a.eval y=.slice none 0 0→σ.clash o.dst=false→k (σ.put o.dst none (.bool (!ad.isNone)))→o.wp env.P a w next Q:=by
  intro e ad n cp ht hop hax hy hcl hk
  subst hop
  refine qaN (v:=.bool (!ad.isNone)) (w':=w) ?_ (hn _ _ _ _ _ hk (h.put hcl .bool) fun _=>Agr.refl _)
  simp only[execOp,ho,hax,hy,Sem.run_bind,qng,Result.andThen_ok,sl_neq ht,Sem.run_pure]
 have gS:∀ {u:Value} {c:Nat} {xs:List (ty c)},Rep w im ρ u (.sl c xs)→∃ ad n cp,u=.slice ad n cp∧(ad=none→xs=[]):=by
  intro u c xs hx
  cases hx with
  |sl0=>exact⟨_,_,_,rfl,fun _=>rfl⟩
  |emp=>exact⟨_,_,_,rfl,fun _=>rfl⟩
  |sl=>exact⟨_,_,_,rfl,by simp⟩
 have gR:∀ {u:Value} {c i o n:Nat},Rep w im ρ u (.row c i o n)→∃ ad m cp,u=.slice ad m cp∧(ad=none→n=0):=by
  intro u c i o n hx
  cases hx with
  |row0=>exact⟨_,_,_,rfl,fun _=>rfl⟩
  |row=>exact⟨_,_,_,rfl,by simp⟩
  |rowE=>exact⟨_,_,_,rfl,by simp⟩
 split at hv
 ·
  rename_i e c xs ht hx' hy' hcl
  rw[hx'] at hx;rw[hy'] at hy
  obtain⟨ad,n,cp,hax,hnil⟩:=gS hx
  refine fE ht rfl hax hy.inv_nilsl hcl ?_
  split at hv
  ·
   cases ad with
   |none=>have:=hnil rfl;simp at this
   |some ad=>exact hv
  ·
   exact hv ad.isNone (fun e=>hnil (by simpa using e))
 ·
  rename_i e c xs ht hx' hy' hcl
  rw[hx'] at hx;rw[hy'] at hy
  obtain⟨ad,n,cp,hax,hnil⟩:=gS hx
  refine fN ht rfl hax hy.inv_nilsl hcl ?_
  split at hv
  ·
   cases ad with
   |none=>have:=hnil rfl;simp at this
   |some ad=>exact hv
  ·
   exact hv (!ad.isNone) (fun e=>hnil (by simpa using e))
 ·
  rename_i e c i o' n ht hx' hy' hcl
  rw[hx'] at hx;rw[hy'] at hy
  obtain⟨ad,m,cp,hax,hnil⟩:=gR hx
  refine fE ht rfl hax hy.inv_nilsl hcl ?_
  split at hv
  ·
   cases ad with
   |none=>have:=hnil rfl;simp at this
   |some ad=>exact hv
  ·
   exact hv ad.isNone (fun e=>hnil (by simpa using e))
 ·
  rename_i e c i o' n ht hx' hy' hcl
  rw[hx'] at hx;rw[hy'] at hy
  obtain⟨ad,m,cp,hax,hnil⟩:=gR hx
  refine fN ht rfl hax hy.inv_nilsl hcl ?_
  split at hv
  ·
   cases ad with
   |none=>have:=hnil rfl;simp at this
   |some ad=>exact hv
  ·
   exact hv (!ad.isNone) (fun e=>hnil (by simpa using e))
 ·
  exact hv.elim
end
end Go.Eng
