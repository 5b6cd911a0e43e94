import Derived.Test.YtcdppfnjidlknaaGreatDoorYao
set_option linter.unusedVariables false
set_option linter.unusedSimpArgs false
namespace Go.Eng
open Go
noncomputable section
def opsDN {R:Type}(env:DEnv)(all:List Oper):List Oper→Nat→AS→(AS→Option R)→Option R
 | [],_,σ,k=>k σ
 |o::rest,id,σ,k=>oneD env all o id σ fun σ'=>opsDN env all rest (id+1) σ' k
def runDO {R:Type}(env:DEnv)(n:FuncId)(vs:List AV)(l:List Nat) (σ:AS)(F:AS→Option R):Option R :=
 match env.P.funcs[n]?,noGs σ.gs with
 |some fn',true=>match fn'.body,Nat.ble vs.length fn'.ntmps with
  |some c,true=>den env c ⟨pad (qbP σ.locs vs) fn'.ntmps,[],σ.locs⟩ fun e σ4=>match e with
   |.exit _=>none
   |_=>match qwQ env.P σ4 fn'.results.toList,noGs σ4.gs with
    |some _,true=>match pinS 0 l ⟨qbP σ4.locs σ.slots,[],σ4.locs⟩ with
     |σ5=>match qo3 σ5.locs with
      |true=>F σ5
      |false=>none
    |_,_=>none
  |_,_=>none
 |_,_=>none
def qrT {R:Type}(env:DEnv)(n:FuncId)(F:AS→Option R):Code→AS→Option R
 |.seq a b,σ=>match q0E a with
  |none=>den env a σ fun e σ'=>match e with
   |.norm=>qrT env n F b σ'
   |.ret=>F σ'
   |.exit _=>none
  |some (id,ops,pre,o,c)=>opsDN env ops.toList pre ((id+1)*1000) σ fun σ1=>match c.callee,noGs σ1.gs with
   |.value f,true=>match σ1.ev none f with
    |.fn (.func n') first cap=>match Nat.beq n' n with
     |true=>match first++c.args.toList.map (σ1.ev none)++cap with
      |vs=>match idsL vs [] with
       |l=>den env b ((pinS 0 l σ1).put o.dst none (.tup [])) fun e σ3=>match e with
        |.exit _=>none
        |_=>runDO env n (pinV 0 l vs) l σ3 F
     |false=>none
    |_=>none
   |_,_=>none
 |c,σ=>den env c σ fun e σ'=>match e with
  |.exit _=>none
  |_=>F σ'
theorem q2J {R:Type}{r:R}{env:DEnv}{k:AS→Option R}{k':AS→Prop}(hs:env.o=DOps.std){all:List Oper}(hk:∀ σ',k σ'=some r→k' σ'):∀ {l:List Oper} {id:Nat} {σ:AS},opsDN env all l id σ k=some r→qxk env.to all l id σ k'
 | [],_,_,h=>hk _ h
 |o::l,id,σ,h=>by
  unfold opsDN at h
  unfold qxk
  exact qu0 hs (fun σ' hk2=>q2J hs hk hk2) h
section
variable {w0 w : World} {bor : Bor} {im0 im : Nat → Prop} {ρ : Ids} {σ : AS} {a : Act}
theorem q0n {T:Type} {r:T} {env:DEnv} (hs:env.o=DOps.std) (hΓ:Gam env.P (fun f=>(env.spec f).map DSpec.to) (0,none) w0 qiH im0) {fn:Func} {F:AS→Option T} {n:FuncId} {vs:List AV} {l:List Nat} {pin:Ids} {vals us:Array Value} {R:Ending→World→Prop}
  (hc:∀ args w,(callFunc n args).run env.P w=.ok (.enter n args) w) {dargs:Array Value} (hda:dargs++us=vals)
  (h:SA w0 ⟨fun _=>False,pin,[{target:=.fn (.func n) us,args:=dargs}]⟩ im0 im ρ σ a w) (hlen:vals.size=vs.length)
  {w1:World} {im1:Nat→Prop} {ρ1:Ids} (hpin1:∀ i x,i<900→ρ1 i=some x→pin i=some x) (hvs:∀ (j:Nat) (v:Value),vals[j]? = some v→Rep w1 im1 ρ1 v (nth vs j))
  (hv:runDO env n vs l σ F=some r) (hfin:∀ σ' a' w' im' ρ',a'.tmps=a.tmps→F σ'=some r→SA w0 qiH im0 im' ρ' σ' a' w'→∃ v,(results fn a'.tmps).run env.P w'=.ok v w'∧R (.returned v) w') :
  Leaves env.P fn a.tmps R a.defers .returning w:=by
 unfold runDO at hv
 split at hv
 ·
  rename_i fn' hf' hgs
  split at hv
  ·
   rename_i c hb hle
   have hle:=Nat.le_of_ble_eq_true hle
   have hgs:=qf7 hgs
   have hdf:a.defers=[{target:=.fn (.func n) us,args:=dargs}]:=h.st.defers
   rw[hdf]
   refine leaves_cons (f:=n) (args:=vals) (by simp) (by simp only[invoke];rw[hda];exact hc vals w) ?_
   have hL:∀ i b,lget σ.locs i=some b→∃ x,ρ i=some x:=fun i b hl=>by
    obtain⟨ob,h1,-⟩:=h.st.blk i b hl
    exact⟨ob,h1⟩
   have hkl:(qbP σ.locs vs).length=vs.length:=by rw[qdL];simp
   have h0:SA w0 ⟨fun _=>False,pin,[]⟩ im0 im ρ ⟨pad (qbP σ.locs vs) fn'.ntmps,[],σ.locs⟩ {tmps:=vals++Array.replicate (fn'.ntmps-vals.size) undef,defers:=[]} w:=by
    refine⟨⟨rfl,?_,fun i v hi=>?_,h.st.dom,h.st.blk,h.st.inj,h.st.notim,h.st.imlt,h.st.imold,h.st.imnew,h.st.own,h.st.pin,h.st.shp,h.st.blt,h.st.os,h.st.tape,h.st.output,h.st.size,h.st.frame⟩,h.uniq⟩
    ·
     simp[pad,hkl];omega
    ·
     show Rep w im ρ v (nth (pad (qbP σ.locs vs) fn'.ntmps) i)
     refine slot_pad (by rw[hkl];exact hlen) (by rw[hkl];exact hle) (fun j v hj=>?_) i v hi
     rw[qdL,qag (by rfl)]
     exact qxl (hvs j v hj) hpin1 h.st.pin hL
   refine CallsD.mono (callsD_of_wp (R:=fun e w'=>match e with|.returned _=>Leaves env.P fn a.tmps R [] .returning w'|_=>False) hf' hb ?_) fun e u' w' he=>?_
   ·
    refine qcb (bor:=⟨fun _=>False,pin,[]⟩) (w0:=w0) (im0:=im0) (sp:=env.spec) (P:=env.P) ⟨hΓ.h,hΓ.k,hΓ.b,⟨hΓ.yg.1,fun _ h=>h.elim⟩,hΓ.wd⟩ c (env:=env) hs rfl rfl h0 hv fun e σ' a' w' im' ρ' hk h'=>?_
    have key:(match qwQ env.P σ' fn'.results.toList,noGs σ'.gs with
      |some _,true=>match pinS 0 l ⟨qbP σ'.locs σ.slots,[],σ'.locs⟩ with
       |σ5=>match qo3 σ5.locs with
        |true=>F σ5
        |false=>none
      |_,_=>none)=some r→a'.defers=[]∧∃ v,(results fn' a'.tmps).run env.P w'=.ok v w'∧Leaves env.P fn a.tmps R [] .returning w':=fun hk=>by
     split at hk
     ·
      rename_i rr hr hg
      obtain⟨v,hres,-⟩:=qkE h' (qf7 hg) hr
      refine⟨h'.st.defers,v,hres,?_⟩
      dsimp only at hk
      have h5:SA w0 ⟨fun _=>False,pin,[]⟩ im0 im' ρ' ⟨qbP σ'.locs σ.slots,[],σ'.locs⟩ {a with defers:=[]} w':=by
       refine⟨⟨rfl,?_,fun i v hi=>?_,h'.st.dom,h'.st.blk,h'.st.inj,h'.st.notim,h'.st.imlt,h'.st.imold,h'.st.imnew,h'.st.own,h'.st.pin,h'.st.shp,h'.st.blt,h'.st.os,h'.st.tape,h'.st.output,h'.st.size,h'.st.frame⟩,h'.uniq⟩
       ·
        show a.tmps.size=_
        rw[h.st.len,qdL];simp
       ·
        have:=h.st.slot i v hi
        unfold SRep at this
        rw[hgs] at this
        show Rep w' im' ρ' v (nth (qbP σ'.locs σ.slots) i)
        rw[qdL,qag (by rfl)]
        exact qxl this h.st.pin h'.st.pin fun i b hl=>by
         obtain⟨ob,h1,-⟩:=h'.st.blk i b hl
         exact⟨ob,h1⟩
      obtain⟨ρ6,h6,-⟩:=q0F l 0 h5
      split at hk
      case h_2=>cases hk
      rename_i hhi
      have h7:SA w0 qiH im0 im' ρ6 (pinS 0 l ⟨qbP σ'.locs σ.slots,[],σ'.locs⟩) {a with defers:=[]} w':=by
       refine⟨⟨rfl,h6.st.len,h6.st.slot,h6.st.dom,h6.st.blk,h6.st.inj,h6.st.notim,h6.st.imlt,h6.st.imold,h6.st.imnew,h6.st.own,fun i x hlt hx=>?_,h6.st.shp,h6.st.blt,h6.st.os,h6.st.tape,h6.st.output,h6.st.size,h6.st.frame⟩,h6.uniq⟩
       exfalso
       cases hl:lget (pinS 0 l ⟨qbP σ'.locs σ.slots,[],σ'.locs⟩).locs i with
       |none=>rw[h6.st.dom i hl] at hx;cases hx
       |some b=>have:=qsg hhi i b hl;omega
      exact hfin _ {a with defers:=[]} _ _ _ rfl hk h7
     ·
      cases hk
    cases e with
    |norm=>exact key hk
    |ret=>exact key hk
    |exit i=>cases hk
   ·
    obtain⟨rfl,he⟩:=he
    cases e with
    |returned v=>exact he
    |panicked ch=>exact he.elim
    |outgrown=>exact he.elim
  ·
   cases hv
 ·
  cases hv
theorem qwJ {T:Type} {r:T} {env:DEnv} (hs:env.o=DOps.std) (hΓ:Gam env.P (fun f=>(env.spec f).map DSpec.to) (0,none) w0 qiH im0) {n:FuncId} (hcall:∀ args w,(callFunc n args).run env.P w=.ok (.enter n args) w) {fn:Func} {F:AS→Option T} {R:Ending→World→Prop}
  (hfin:∀ σ' a' w' im' ρ',F σ'=some r→SA w0 qiH im0 im' ρ' σ' a' w'→∃ v,(results fn a'.tmps).run env.P w'=.ok v w'∧R (.returned v) w') :
  ∀ (c:Code) {σ:AS} {a:Act} {w:World} {im:Nat→Prop} {ρ:Ids},SA w0 qiH im0 im ρ σ a w→qrT env n F c σ=some r→c.wp env.P (bodyPostD env.P fn R) a w:=by
 have fin:∀ {σ' a' w' im' ρ'},F σ'=some r→SA w0 qiH im0 im' ρ' σ' a' w'→Leaves env.P fn a'.tmps R a'.defers .returning w':=fun hk h'=>by
  rw[h'.st.defers]
  exact hfin _ _ _ _ _ hk h'
 have plain:∀ (c:Code) {σ:AS} {a:Act} {w:World} {im:Nat→Prop} {ρ:Ids},SA w0 qiH im0 im ρ σ a w→(den env c σ fun e σ'=>match e with
   |.exit _=>none
   |_=>F σ')=some r→c.wp env.P (bodyPostD env.P fn R) a w:=fun c σ a w im ρ h hv =>
  qcb hΓ c (env:=env) hs rfl rfl h hv fun e σ' a' w' im' ρ' hk h'=>by
   cases e with
   |norm=>exact fin hk h'
   |ret=>exact fin hk h'
   |exit i=>cases hk
 intro c
 induction c with
 |seq x y ihx ihy =>
  intro σ a w im ρ h hv
  unfold qrT at hv
  refine wp_seq ?_
  split at hv
  ·
   refine qcb hΓ x (env:=env) hs rfl rfl h hv fun e σ' a' w' im' ρ' hk h'=>?_
   cases e with
   |norm=>exact ihy h' hk
   |ret=>exact fin hk h'
   |exit i=>cases hk
  ·
   rename_i id ops pre o c hd
   obtain⟨rfl,hops,hop,hog⟩:=q4P hd
   refine wp_region_list ?_
   rw[hops]
   refine qmc (env:=env.to) hΓ pre _ h (q2J (k':=fun σ'=>_=some r) hs (fun σ' hk=>hk) hv) fun σ1 a1 w1 im1 ρ1 hk h1=>?_
   split at hk
   ·
    rename_i f hcl hgs
    split at hk
    ·
     rename_i n' first cap hf
     split at hk
     case h_2=>cases hk
     rename_i hnn
     have hnn:=nbeq hnn
     rw[hnn] at hf
     clear hnn
     dsimp only at hk
     generalize hxs:first++c.args.toList.map (σ1.ev none)++cap=xs at hk
     have hgs:=qf7 hgs
     have hr:=h1.ev (g:=none) (fun _ _ e=>by cases e) f
     rw[hf] at hr
     obtain⟨vs,us,hfe,hvs,hus,g1,g2⟩:=hr.inv_fn
     have hargs:=qek a1.eval (σ1.ev none) (fun x=>h1.ev (fun _ _ e=>by cases e) x) c.args.toList
     have hrun:(execOp a1.eval o).run env.P w1=.ok (.defer {target:=.fn (.func n) us,args:=vs++c.args.map a1.eval}) w1:=by
      simp only[execOp,hop,resolve,hcl,hfe,Deferred.ofValue,Sem.run_bind,Sem.run_pure,Result.andThen_ok]
     have hxl:(vs++c.args.map a1.eval++us).size=xs.length:=by rw[← hxs];simp[hvs,hus]
     have hxr:∀ (j:Nat) (v:Value),(vs++c.args.map a1.eval++us)[j]? = some v→Rep w1 im1 ρ1 v (nth xs j):=by
      intro j v hj
      rw[← hxs]
      rw[Array.getElem?_append] at hj
      split at hj
      ·
       rename_i hj1
       rw[qao,List.getElem?_append_left (by simp at hj1 ⊢;omega),← qao]
       rw[Array.getElem?_append] at hj
       split at hj
       ·
        rename_i hj2
        rw[qao,List.getElem?_append_left (by omega),← qao]
        exact g1 j v hj
       ·
        rename_i hj2
        rw[qao,List.getElem?_append_right (by omega),← qao,← hvs]
        exact hargs _ v (by simpa using hj)
      ·
       rename_i hj1
       simp only[Array.size_append,Array.size_map] at hj1 hj
       rw[qao,List.getElem?_append_right (by simp;omega),← qao]
       have e:j-(first++List.map (σ1.ev none) c.args.toList).length=j-(vs.size+c.args.size):=by simp[hvs]
       rw[e]
       exact g2 _ v hj
     generalize hl:idsL xs []=l at hk
     obtain⟨ρ2,h2,h2r⟩:=q0F l 0 h1
     have hpl:∀ (l:List Nat) (n:Nat) (xs:List AV),(pinV n l xs).length=xs.length:=by
      intro l
      induction l with
      |nil=>intro n xs;rfl
      |cons i r ih=>intro n xs;rw[pinV,ih,qaY,List.length_map]
     have hpg:∀ (l:List Nat) (n:Nat) (σ:AS),(pinS n l σ).gs=σ.gs:=by
      intro l
      induction l with
      |nil=>intro n σ;rfl
      |cons i r ih=>intro n σ;rw[pinS,ih];rfl
     have h3:SA w0 ⟨fun _=>False,ρ2,[{target:=.fn (.func n) us,args:=vs++c.args.map a1.eval}]⟩ im0 im1 ρ2 (pinS 0 l σ1) {a1 with defers:={target:=.fn (.func n) us,args:=vs++c.args.map a1.eval}::a1.defers} w1 :=
      ⟨⟨by show _::a1.defers=_;rw[h1.st.defers];rfl,h2.st.len,h2.st.slot,h2.st.dom,h2.st.blk,h2.st.inj,h2.st.notim,h2.st.imlt,h2.st.imold,h2.st.imnew,h2.st.own,h2.st.pin,h2.st.shp,h2.st.blt,h2.st.os,h2.st.tape,h2.st.output,h2.st.size,h2.st.frame⟩,h2.uniq⟩
     have hclash:(pinS 0 l σ1).clash o.dst=false:=by
      unfold AS.clash
      cases o.dst with
      |none=>rfl
      |some d=>dsimp only;rw[hpg,hgs];rfl
     have h4:=h3.put hclash (v:=undef) qaW
     unfold wpList
     have hstep:o.wp env.P a1 w1 (wpList env.P ops (Exit.then (y.wp env.P (bodyPostD env.P fn R)) (bodyPostD env.P fn R)) []) (Exit.then (y.wp env.P (bodyPostD env.P fn R)) (bodyPostD env.P fn R)):=by
      unfold Oper.wp
      rw[hrun,Oper.upon_defer]
      show y.wp env.P (bodyPostD env.P fn R) _ w1
      refine qcb (bor:=⟨fun _=>False,ρ2,[{target:=.fn (.func n) us,args:=vs++c.args.map a1.eval}]⟩) (w0:=w0) (im0:=im0) (sp:=env.spec) (P:=env.P) ⟨hΓ.h,hΓ.k,hΓ.b,⟨hΓ.yg.1,fun _ h=>h.elim⟩,hΓ.wd⟩ y (env:=env) hs rfl rfl h4 hk fun e σ' a' w' im' ρ' hk' h'=>?_
      have key:runDO env n (pinV 0 l xs) l σ' F=some r→Leaves env.P fn a'.tmps R a'.defers .returning w':=fun hk'=>by
       exact q0n hs hΓ hcall rfl h' (by rw[hpl];exact hxl) (fun _ _ _ hx=>hx) (h2r _ _ hxr) hk' fun σ' a' w' im' ρ' _ hk h'=>hfin _ _ _ _ _ hk h'
      cases e with
      |norm=>exact key hk'
      |ret=>exact key hk'
      |exit i=>cases hk'
     split
     ·
      exact .inl hstep
     ·
      rename_i hw
      exfalso
      apply hw
      simp[Region.wanted,hog]
    ·
     cases hk
   ·
    cases hk
 |skip=>intro σ a w im ρ h hv;unfold qrT at hv;exact plain _ h hv
 |_=>intros;rename_i h hv;unfold qrT at hv;exact plain _ h hv
end
def DFn.bodyT (env:DEnv)(d:DFn)(n:FuncId)(fn:Func)(v:d.In):Option d.T:=match fn.body with
 |none=>none
 |some c=>qrT env n (fun σ=>d.out.get env.o σ fun t=>some (d.to t)) c (d.start fn v)
structure SameT (env:DOps→DEnv) (d:DFn) (n:FuncId) (fn:Func) (f:DOps→d.In→Option d.T):Prop where
 out:∀ o v,f o v=d.bodyT (env o) n fn v
theorem DFn.holdsT {enV:DOps→DEnv} {env:DEnv} (he:env=enV DOps.std) (hs:env.o=DOps.std) (hΓ:∀ f s,env.spec f=some s→qbe env.P f s.to) {f n:FuncId} {fn:Func} {d:DFn} {Fo:DOps→d.In→Option d.T} (hown:d.own=[]) (hf:env.P.funcs[f]? = some fn)
  (hc:∀ args w,(callFunc f args).run env.P w=.ok (.enter f args) w) (hcall:∀ args w,(callFunc n args).run env.P w=.ok (.enter n args) w) (hF:SameT enV d n fn Fo):qbe env.P f (d.spec env.P fn (Fo DOps.std)).to:=by
 have hΓ':∀ f s,env.to.spec f=some s→qbe env.P f s:=fun f s h=>by
  have h:(env.spec f).map DSpec.to=some s:=h
  obtain⟨s',h1,rfl⟩:=Option.map_eq_some_iff.1 h
  exact hΓ f s' h1
 refine qcO.h ?_ hown
 intro w im vals args k o a next Q him hKc hlen hrep hrun hnext
 obtain⟨R,K,r,hrun,hK⟩:=hrun
 rw[hc]
 show Calls env.P f vals w _
 have hrun:(match Nat.ble args.length fn.ntmps with
  |true=>d.getIn DOps.std args [] fun v=>qux (Fo DOps.std v) fun t=>finD env.P d.ro d.own fn.results.toList 0 (d.out.st (d.of t)) K
  |false=>none)=some r:=hrun
 split at hrun
 ·
  rename_i hle
  have hle:=Nat.le_of_ble_eq_true hle
  have h0:=quW (fn:=fn) him hlen hrep hle
  have h0:SA w qiH im im qai ⟨pad args fn.ntmps,[],qco d.own 0 []⟩ _ w:=h0
  obtain⟨v,ρ1,h1,h2⟩:=qu5 h0 hrun
  obtain⟨t,h3,h4⟩:=qc4 h1
  rw[hF.out DOps.std v,← he] at h3
  unfold DFn.bodyT at h3
  split at h3
  ·
   cases h3
  ·
   rename_i c hb
   rw[hs] at h3
   refine calls_of_wp_defers hf hb ?_
   refine qwJ hs ⟨fun f s h=>(hΓ' f s h).n _,hKc,fun b hb=>⟨him b hb,fun e=>e⟩,⟨Nat.zero_le _,fun _ e=>False.elim e⟩,fun _ e=>by cases e⟩ hcall (fun σ' a' w' im' ρ' hk h'=>?_) c h2 h3
   obtain⟨t',im2,ρ2,e,h6⟩:=qcA h' hk
   cases e
   rw[hown,d.iso] at h4
   obtain⟨v,im3,ρ3,x,F',g1,g2,g3⟩:=qf8 h6 (qk2 hK h4) him
   exact⟨v,g1,hnext _ _ _ _ _ _ g2 g3⟩
 ·
  cases hrun
theorem holdsTE {P:Program} {code:TypeId→Nat} (T:DT) (l c:List (Nat×Pat)) (li:List Nat) (hT:DTok P T) {f n:Nat} {fn:Func} {d:DFn} {Fo:DOps→d.In→Option d.T} (hown:d.own=[]) (hF:SameT (mkDE P code T l c li) d n fn Fo) (hf:P.funcs[f]? = some fn)
  (hc:∀ args w,(callFunc f args).run P w=.ok (.enter f args) w) (hcall:∀ args w,(callFunc n args).run P w=.ok (.enter n args) w):DH P f (d.spec P fn (Fo DOps.std)) :=
 ⟨DFn.holdsT (env:=mkDE P code T l c li DOps.std) (enV:=mkDE P code T l c li) rfl rfl (qgk hT) hown hf hc hcall hF⟩
end
end Go.Eng
namespace Go.Eng
open Go
def ix {α R:Type}(o:DOps)(z:List α)(n:Int)(d:α)(k:α→Option R):Option R:=req (decide (0≤n)) (req (decide (n<(z.length:Int))) (o.letv (z.getD n.toNat d) k))
def inc {R:Type}(o:DOps)(n:Int)(k:Int→Option R):Option R:=o.letv (IntKind.i64.wrap (n+1)) k
def rb {R:Type}(n:Int)(l:Nat)(q:Option R):Option R:=req (decide (0≤n)) (req (decide (n<(l:Int))) q)
def mks {R:Type}(n:Int)(b:Nat)(q:Option R):Option R:=req (decide (0≤n∧n≤n∧n*(b:Int)≤140737488355328)) q
def rm {R:Type}(n b:Nat)(q:Option R):Option R:=req (decide (n*b≤140737488355328)) q
def rs {R:Type}(a b:Nat)(q:Option R):Option R:=req (sameN a b) q
def wi (n:Int):Int:=IntKind.i64.wrap n
def wq (n:Int):Int:=IntKind.u32.wrap n
def wu (n:Int):Int:=IntKind.u64.wrap n
def wb (n:Int):Int:=IntKind.u8.wrap n
inductive Tr where
 |l (i:Nat)
 |n (a b:Tr)
def sm {R:Type}(o:DOps)(q:List (Option R)):Tr→Option R
 |.l i=>q.getD i none
 |.n a b=>o.same (sm o q a) (sm o q b)
def Tr.ok (m:Nat):Tr→Bool
 |.l i=>Nat.blt i m
 |.n a b=>a.ok m&&b.ok m
def Tr.fst:Tr→Nat
 |.l i=>i
 |.n a _=>a.fst
theorem sm_ev {R:Type}(q:List (Option R)):∀ (t:Tr),sm DOps.ev q t=q.getD t.fst none
 |.l i=>rfl
 |.n a b=>sm_ev q a
theorem qaz {R:Type}{a b:Option R}(h:b=a):DOps.std.same a b=a:=by subst h;exact q46 b
theorem qbo {R:Type}{a b:Option R}:DOps.ev.same a b=a:=rfl
theorem qdA {R:Type}(a d:R)(l:List R):(a::l).getD 0 d=a:=rfl
theorem qdB {R:Type}(a b d:R)(l:List R):(a::b::l).getD 1 d=b:=rfl
theorem qhM {R:Type}(a b c d:R)(l:List R):(a::b::c::l).getD 2 d=c:=rfl
theorem sm_l {R:Type}(o:DOps)(q:List (Option R))(i:Nat):sm o q (.l i)=q.getD i none:=rfl
theorem sm_n {R:Type}(o:DOps)(q:List (Option R))(a b:Tr):sm o q (.n a b)=o.same (sm o q a) (sm o q b):=rfl
theorem smE {R:Type}{A:Option R}{l:List (Option R)}{t:Tr}(h:t.fst=0):sm DOps.ev (A::l) t=A:=by rw[sm_ev,h];rfl
theorem qaK {R:Type}(a b:Bool)(q:Option R):req a (req b q)=req b (req a q):=by cases a<;>cases b<;>rfl
theorem req5 {R:Type}(a b c d e:Bool)(q:Option R):req d (req e (req a (req b (req c q))))=req a (req b (req c (req d (req e q)))):=by cases a<;>cases b<;>cases c<;>cases d<;>cases e<;>rfl
theorem qcB {R:Type}(a b c:Bool)(q:Option R):req b (req a (req c q))=req a (req b (req c q)):=by cases a<;>cases b<;>cases c<;>rfl
theorem qcC {R:Type}(a b c:Bool)(q:Option R):req a (req c (req b q))=req a (req b (req c q)):=by cases a<;>cases b<;>cases c<;>rfl
theorem qcD {R:Type}(a b c:Bool)(q:Option R):req b (req c (req a q))=req a (req b (req c q)):=by cases a<;>cases b<;>cases c<;>rfl
theorem qcE {R:Type}(a b c:Bool)(q:Option R):req c (req a (req b q))=req a (req b (req c q)):=by cases a<;>cases b<;>cases c<;>rfl
theorem qcF {R:Type}(a b c:Bool)(q:Option R):req c (req b (req a q))=req a (req b (req c q)):=by cases a<;>cases b<;>cases c<;>rfl
theorem qaL {α β:Type}(e:α)(k:α→Option β):DOps.std.letv e k=k e:=rfl
end Go.Eng
