import Derived.Test.YtcdppfnjidlknaaGreatDoorYah
import Derived.Orders
set_option linter.unusedVariables false
set_option linter.unusedSimpArgs false
namespace Go.Eng
open Go
theorem q6H {l:List DP}(h:conjD l):AllD l:=by
 induction l with
 |nil=>trivial
 |cons p r ih =>
  obtain⟨p,d⟩:=p
  cases r with
  |nil=>exact⟨h,trivial⟩
  |cons q r=>exact⟨h.1,ih h.2⟩
theorem all_conj {l:List Prop}(h:conj l):All l:=by
 induction l with
 |nil=>trivial
 |cons p r ih =>
  cases r with
  |nil=>exact⟨h,trivial⟩
  |cons q r=>exact⟨h.1,ih h.2⟩
theorem conj_all {l:List Prop}(h:All l):conj l:=by
 induction l with
 |nil=>trivial
 |cons p r ih =>
  cases r with
  |nil=>exact h.1
  |cons q r=>exact⟨h.1,ih h.2⟩
theorem qxf {g:List Prop}{pre:List DP}{q:Prop}(h:q6u g pre q):(All g→AllD pre)∧q:=by
 cases pre with
 |nil=>exact⟨fun _=>trivial,h⟩
 |cons p r=>exact⟨fun hg=>q6H (h.1 (conj_all hg)),h.2⟩
section
variable {w0 w : World} {bor : Bor} {im0 im : Nat → Prop} {ρ : Ids} {σ : AS} {a : Act}
theorem q2W (l:List Nat):∀ σ,AS.fzv l σ .dead=.dead:=by
 induction l with
 |nil=>intro σ;rfl
 |cons i l ih =>
  intro σ
  unfold AS.fzv
  split
  ·
   have:frz i _ ‹_› AV.dead=.dead:=rfl
   rw[this];exact ih _
  ·
   exact ih _
theorem q2X {L:Locs}(hu:Uniq L){i:Nat}{b:Blk}(h:(i,b)∈L):lget L i=some b:=by
 induction L with
 |nil=>cases h
 |cons x r ih =>
  obtain⟨j,b'⟩:=x
  unfold Uniq at hu
  simp only[List.map_cons,List.nodup_cons] at hu
  simp only[lget]
  rcases List.mem_cons.1 h with h1|h1
  ·
   simp only[Prod.mk.injEq] at h1
   obtain⟨rfl,rfl⟩:=h1
   have:Nat.beq i i=true:=Nat.beq_refl i
   simp only[this]
  ·
   have hne:Nat.beq j i=false:=by
    cases hb:Nat.beq j i with
    |false=>rfl
    |true =>
     have:=nbeq hb
     subst this
     exact absurd (List.mem_map.2 ⟨_,h1,rfl⟩) hu.1
   simp only[hne]
   exact ih hu.2 h1
theorem qou (h:SA w0 bor im0 im ρ σ a w)(L0:Locs):∀ (L:Locs),(∀ x∈L,x∈σ.locs)→∀ (args:List AV),(qrp L0 L args).length=args.length ∧
  ∀ (j:Nat) (v:Value),Rep w (fun b=>b<w.heap.size) ρ v (nth args j)→Rep w (fun b=>b<w.heap.size) ρ v (nth (qrp L0 L args) j)
 | [],_,args=>⟨rfl,fun _ _ h=>h⟩
 |(i,.cells cs)::r,hs,args=>by
  have ih:=qou h L0 r (fun x hx=>hs x (List.mem_cons_of_mem _ hx)) (irfL i cs args)
  have hl:=q2X h.uniq (hs _ (List.mem_cons_self ..))
  obtain⟨ob,h1,h2⟩:=h.st.blk i _ hl
  rw[show qrp L0 ((i,Blk.cells cs)::r) args=qrp L0 r (irfL i cs args) from rfl]
  have key:(irfL i cs args).length=args.length∧∀ (j:Nat) (v:Value),Rep w (fun b=>b<w.heap.size) ρ v (nth args j)→Rep w (fun b=>b<w.heap.size) ρ v (nth (irfL i cs args) j):=by
   unfold irfL
   split
   ·
    split
    ·
     rename_i x hx
     refine⟨by simp,fun j v hr=>?_⟩
     rw[qag (by rfl)]
     unfold irf
     split
     ·
      rename_i k o hk
      rw[hk] at hr
      split
      ·
       rename_i hki
       have hki:=nbeq hki
       subst hki
       obtain⟨b,m,hb,rfl⟩:=hr.inv_ptr
       rw[hb] at h1
       simp only[Option.some.injEq] at h1
       subst h1
       obtain⟨b',cur,e,g1,g2,g3,g4,g5⟩:=h2
       simp only[Option.some.injEq] at g1
       subst g1
       obtain⟨q1,q2⟩:=qhC (w:=w) (im:=im) (ρ:=ρ) 27 cs x hx
       have hlt:∀ j,j<51→j<cur.size:=fun j hj=>by rw[g3,q1];exact hj
       refine .iref (off:=0) (by exact(Array.getElem?_eq_some_iff.1 g2).1) (by omega) (fun j=>cur.getD j undef) (fun j hj=>?_) (fun j hj=>?_) (fun j hj=>?_)
       ·
        rw[qbV w g2,Nat.zero_add];exact qar (hlt j hj)
       ·
        exact g4 _ _ (qar (hlt j hj))
       ·
        exact(q2 j _ hj (g5 j _ (qar (hlt j hj)))).stable (fun _ _=>rfl) (fun b hb=>h.st.imlt b hb) (fun _ _ h=>h) (fun _ _ _ h=>by simp[qai] at h)
      ·
       exact hr
     ·
      exact hr
    ·
     exact⟨rfl,fun _ _ h=>h⟩
   ·
    exact⟨rfl,fun _ _ h=>h⟩
  exact⟨by rw[ih.1,key.1],fun j v hr=>ih.2 j v (key.2 j v hr)⟩
 |(i,.row c xs)::r,hs,args=>by
  have ih:=qou h L0 r (fun x hx=>hs x (List.mem_cons_of_mem _ hx)) (frzL i c xs args)
  have hl:=q2X h.uniq (hs _ (List.mem_cons_self ..))
  obtain⟨ob,h1,h2⟩:=h.st.blk i _ hl
  have hB:BRep w (fun b=>b<w.heap.size) qai ob (.row c xs):=h2.closed.stable (fun _ _=>rfl) (fun b hb=>h.st.imlt b hb) (fun _ _ h=>h) (fun _ _ _ h=>by simp[qai] at h) (fun _ _=>rfl)
  refine⟨by rw[show qrp L0 ((i,Blk.row c xs)::r) args=qrp L0 r (frzL i c xs args) from rfl,ih.1,qf3];simp,fun j v hr=>ih.2 j v ?_⟩
  rw[qf3,qag (by rfl)]
  exact hr.frz i hB (fun _ h=>h) (fun b hb=>h2.lt hb) (fun x hx=>by rw[h1] at hx;exact(Option.some.inj hx).symm) (fun _ _ _ h=>h)
theorem qbC {L:Locs}:∀ (n:Nat) (todo acc:List Nat),(∀ i∈acc,lget L i≠none)→∀ i∈qfw L n todo acc,lget L i≠none
 |0,todo,acc,h=>by unfold qfw;exact h
 |n+1,[],acc,h=>by unfold qfw;exact h
 |n+1,j::todo,acc,h=>by
  have hacc:∀ {b:Blk},lget L j=some b→∀ i∈acc++[j],lget L i≠none:=fun hb i hi=>by
   rcases List.mem_append.1 hi with h1|h1
   ·
    exact h i h1
   ·
    simp only[List.mem_singleton] at h1
    subst h1;rw[hb];simp
  unfold qfw
  split
  ·
   exact qbC n _ _ h
  ·
   split
   ·
    exact qbC n _ _ (hacc ‹_›)
   ·
    exact qbC n _ _ (hacc ‹_›)
   ·
    exact qbC n _ _ h
theorem q09 {env:Env} {s:Spec} {o:Oper} {f:FuncId} {sp:FuncId→Option Spec} (hΓ:Gam env.P sp env.yw w0 bor im0) (hH:HB w env.P f s) (h:SA w0 bor im0 im ρ σ a w) {vals:Array Value} {args:List AV} (hl:vals.size=args.length)
  (hr:∀ (j:Nat) (v:Value),vals[j]? = some v→Rep w im ρ v (nth args j)) {id:Nat} {k:AS→Prop} {next:Act→World→Prop} {Q:Exit→Act→World→Prop}
  (hv:q6t env σ o.dst s args id k) (hn:Then (qb9 env) w o w0 bor im0 k next) (hkb:qcH (qb9 env) o.op=true→False):Oper.upon env.P o a next Q ((callFunc f vals).run env.P w):=by
 unfold q6t at hv
 dsimp only at hv
 generalize quB s.lend 0 args []=rd at hv
 obtain⟨im1,ρ1,h',hsub,habs,hfz,hkρ⟩:=h.freezeL rd
 generalize hl':qfw (σ.freezeL rd).locs 1000 (idsL (List.map (AS.fzv rd σ) args) []) []=l at hv
 split at hv
 ·
  rename_i B hB hchk
  simp only[Bool.and_eq_true] at hchk
  obtain⟨⟨hnd,hcl⟩,hlen⟩:=hchk
  have hnd:=qiZ hnd
  have hlen:=Nat.le_of_ble_eq_true hlen
  obtain⟨hLent,hBl,hf⟩:=h'.lent hnd hlen hB
  have hin:∀ (j i:Nat),l[j]? = some i→lget (σ.freezeL rd).locs i≠none:=fun j i hj=>by
   have:=qbC 1000 (idsL (List.map (AS.fzv rd σ) args) []) [] (fun i hi=>by cases hi) i (L:=(σ.freezeL rd).locs)
   rw[hl'] at this
   exact this (List.mem_of_getElem? hj)
  refine hH im1 _ vals _ B _ o a next Q (fun b hb=>h'.st.imlt b hb) (hΓ.at h') (by omega) hLent (by rw[qaY];simpa using hl) (fun j v hj=>?_) hv ?_
  ·
   have h1:=hfz v _ (hr j v hj)
   have e:nth (List.map (AS.fzv rd σ) args) j=AS.fzv rd σ (nth args j):=qag (q2W _ _) _ _
   rw[← e] at h1
   rw[qaY,qag (by rfl)]
   exact(qbw h1 (qaZ hcl j)).ren _ hf
  ·
   intro v w' im' ρ' r bs F hk hres
   unfold q2N at hk
   dsimp only at hk
   split at hk
   ·
    rename_i hab hclash
    rw[hBl] at hres
    obtain⟨im2,ρ2,h1,h2⟩:=h'.calledB hnd hlen hin hres hab
    exact hn _ _ _ _ _ (bindK_ok (k:=fun L=>k (AS.put ⟨((σ.freezeL rd).killD (qfx l bs)).slots,((σ.freezeL rd).killD (qfx l bs)).gs,L⟩ o.dst none (ren (hnum l l.length id) r))) (qsa hk)) (h1.put hclash h2) fun e=>(hkb e).elim
   ·
    exact hk.elim
 ·
  exact hv.elim
theorem q4M {ρ:Ids}{v:Value}{x:AV}(h:Rep w im ρ v x):Rep w im ρ v (q2O x):=by
 unfold q2O
 split
 ·
  cases h with|both h _=>exact h.any
 ·
  exact h
theorem q6I {v:Value}{x:AV}(h:Rep w im ρ v x):Rep w im ρ v (q0u x):=by
 cases x with
 |both a b=>cases h with|both h _=>exact h.any
 |agg l =>
  obtain⟨vs,rfl,h1,h2,h3⟩:=h.inv_agg
  exact .agg (by simpa using h1) h2 fun j v hj=>by rw[qag (f:=q2O) rfl];exact q4M (h3 j v hj)
 |_=>exact h
theorem q4N {env:Env} (hΓ:Gam env.P env.spec env.yw w0 bor im0) (h:SA w0 bor im0 im ρ σ a w) {o:Oper} {f:FuncId} {vals:Array Value} {args:List AV} (hl:vals.size=args.length)
  (hr:∀ (j:Nat) (v:Value),vals[j]? = some v→Rep w im ρ v (nth args j)) {id:Nat} {k:AS→Prop} {next:Act→World→Prop} {Q:Exit→Act→World→Prop}
  (hv:qwO env σ o.dst f args id k) (hn:Then (qb9 env) w o w0 bor im0 k next) (hkb:qcH (qb9 env) o.op=true→qb9 env f=false):Oper.upon env.P o a next Q ((callFunc f vals).run env.P w):=by
 unfold qwO at hv
 have hl2:vals.size=(args.map q0u).length:=by simpa using hl
 have hr2:∀ (j:Nat) (v:Value),vals[j]? = some v→Rep w im ρ v (nth (args.map q0u) j):=fun j v hj=>by
  rw[qag (f:=q0u) rfl];exact q6I (hr j v hj)
 dsimp only at hv
 generalize args.map q0u=args' at hv hl2 hr2
 clear hl hr
 have hl:=hl2
 have hr:=hr2
 split at hv
 ·
  exact hv.elim
 ·
  rename_i s hs
  have hH:=hΓ.h f s hs
  split at hv
  ·
   rename_i o1 os hown
   exact q09 hΓ (hH.b hown w h.st.size) h hl hr hv hn fun e=>by
    have e:=hkb e
    unfold qb9 at e
    rw[hs] at e
    dsimp only at e
    rw[hown] at e
    cases e
  rename_i hown
  have hH:=hH.a hown w h.st.size
  split at hv
  ·
   rename_i hro
   split at hv
   ·
    rename_i hnid
    obtain⟨hlen,hrep⟩:=qou h σ.locs σ.locs (fun _ h=>h) args'
    refine hH (fun b=>b<w.heap.size) vals _ _ o a next Q (fun _ h=>h) (hΓ.atH h) (by rw[hlen];exact hl) (fun j v hj=>?_) hv ?_
    ·
     have:=hrep j v ((hr j v hj).stable (fun _ _=>rfl) (fun b hb=>h.st.imlt b hb) (fun _ _ h=>h) (fun _ _ _ _=>rfl))
     exact qor this (qos _ hnid j)
    ·
     intro v w' im' ρ' r F hk hres
     split at hk
     ·
      rename_i hab hcl
      obtain⟨im2,ρ2,h1,h2⟩:=h.called hres (fun e=>by rw[hro] at e;cases e) hab
      exact hn _ _ _ _ _ (qsa hk) (h1.put hcl h2) fun _=>.of_heap hres.below.size hres.below.block
     ·
      exact hk.elim
   ·
    exact hv.elim
  ·
   rename_i hro
   obtain⟨im1,ρ1,h',hsub,habs,hfz,hkρ⟩:=h.freezeL (idsL args' [])
   split at hv
   ·
    rename_i hnid
    refine hH im1 vals _ _ o a next Q (fun b hb=>h'.st.imlt b hb) (hΓ.at h') (by simpa using hl) (fun j v hj=>?_) hv ?_
    ·
     have:=hfz v _ (hr j v hj)
     have e:nth (List.map (AS.fzv (idsL args' []) σ) args') j=AS.fzv (idsL args' []) σ (nth args' j):=qag (q2W _ _) _ _
     rw[← e] at this
     exact qor this (qos _ hnid j)
    ·
     intro v w' im' ρ' r F hk hres
     split at hk
     ·
      rename_i hab hcl
      obtain⟨im2,ρ2,h1,h2⟩:=h'.called hres (fun _ _=>Iff.rfl) hab
      exact hn _ _ _ _ _ (qsa hk) (h1.put hcl h2) fun _=>.of_heap hres.below.size hres.below.block
     ·
      exact hk.elim
   ·
    exact hv.elim
theorem qov {env:Env} (hΓ:Gam env.P env.spec env.yw w0 bor im0) (h:SA w0 bor im0 im ρ σ a w) {o:Oper} {id:Nat} {k:AS→Prop} {next:Act→World→Prop} {Q:Exit→Act→World→Prop} {g:Gd}
  (hg:GdOK a g) (hv:eop env σ g o id k) (hn:Then (qb9 env) w o w0 bor im0 k next):o.wp env.P a w next Q:=by
 cases ho:o.op with
 |alloc t=>exact q04 h ho hv hn
 |box t x=>exact q6C h ho hg hv hn
 |store t ad x=>exact q06 hΓ.wd h ho hg hv hn
 |buildSlice t len parts=>exact qmS h ho hg hv hn
 |makeSlice t l c=>exact qop h ho hg hv hn
 |convert s d x=>exact quS h ho hg hv hn
 |binOp op t x y t'=>exact q4I h ho hg hv hn
 |call c =>
  unfold eop at hv
  rw[ho] at hv
  dsimp only at hv
  split at hv
  ·
   rename_i hc hcl
   exact qxd h ho hc hg hcl hv hn
  ·
   rename_i hc hcl
   exact q4L h ho hc hg hcl hv hn
  ·
   rename_i f hc hcl
   split at hv
   ·
    rename_i n first captured hf
    have hr:=h.ev hg f
    rw[hf] at hr
    obtain⟨vs,us,hfe,hvs,hus,h1,h2⟩:=hr.inv_fn
    have hargs:=qek a.eval (σ.ev g) (fun x=>h.ev hg x) c.args.toList
    unfold Oper.wp
    have hrun:(execOp a.eval o).run env.P w=(callFunc n (vs++c.args.map a.eval++us)).run env.P w:=by
     simp only[execOp,ho,resolve,hc,hfe,Deferred.ofValue,Sem.run_bind,Sem.run_pure,Result.andThen_ok,invoke]
    rw[hrun]
    refine q4N hΓ h ?_ ?_ hv hn (fun e=>?_)
    case refine_3 =>
     rw[ho] at e
     simp only[qcH,hc] at e
     cases f with
     |func f' =>
      simp only[AS.ev,AV.fn.injEq,Fn.func.injEq] at hf
      rw[← hf.1]
      simpa using e
     |tmp t=>cases e
     |const v=>cases e
     | «global» n=>cases e
    ·
     simp[hvs,hus]
    ·
     intro j v hj
     rw[Array.getElem?_append] at hj
     split at hj
     ·
      rename_i hj1
      rw[qao,List.getElem?_append_left (by simp at hj1 ⊢;omega),← qao]
      rw[Array.getElem?_append] at hj
      split at hj
      ·
       rename_i hj2
       rw[qao,List.getElem?_append_left (by omega),← qao]
       exact h1 j v hj
      ·
       rename_i hj2
       rw[qao,List.getElem?_append_right (by omega),← qao,← hvs]
       exact hargs _ v (by simpa using hj)
     ·
      rename_i hj1
      simp only[Array.size_append,Array.size_map] at hj1 hj
      rw[qao,List.getElem?_append_right (by simp;omega),← qao]
      have e:j-(first++List.map (σ.ev g) c.args.toList).length=j-(vs.size+c.args.size):=by simp[hvs]
      rw[e]
      exact h2 _ v hj
   ·
    exact hv.elim
  ·
   exact hv.elim
 |_=>unfold eop at hv;rw[ho] at hv;exact hv.elim
end
end Go.Eng
namespace Go.Eng
open Go
section
variable {P : Program} {ops : Array Oper} {Q : Exit → Act → World → Prop} {a : Act} {w : World}
def qoz (lf:FuncId→Bool)(ops:Array Oper)(i:Nat):Bool:=match ops[i]? with
 |some o=>qcH lf o.op
 |none=>true
def qa8 (P:Program)(ops:Array Oper)(o:Oper)(v:Value)(a:Act)(w:World):Prop :=
 (Region.wanted o (yielded ops a.tmps)=true∧Run P w (execOp a.eval o) (.value v))∨(Region.wanted o (yielded ops a.tmps)=false∧v=undef)
theorem qa8.later {o:Oper}{v:Value}{w':World}(hy:qa8 P ops o v a w)(h:Agr w w'):qa8 P ops o v a w' :=
 hy.imp (fun⟨h1,h2⟩=>⟨h1,fun w'' h3=>h2 w'' (h.trans h3)⟩) id
theorem slot_run {o:Oper}(hs:quC o.op=true){ev:Operand→Value}{v:Value}{w:World}(h:(execOp ev o).run P w=.ok (.value v) w)(w':World):(execOp ev o).run P w'=.ok (.value v) w':=by
 unfold quC at hs
 unfold execOp at h ⊢
 split at hs
 ·
  rename_i t i ho
  rw[ho] at h ⊢
  dsimp only at h ⊢
  simp only[Sem.run_bind] at h ⊢
  unfold Instr.extract at h ⊢
  generalize ev t=u at h ⊢
  cases u<;>(try (simp at h;done))
  rename_i vs
  dsimp only at h ⊢
  cases hv:vs[i]? with
  |none=>rw[hv] at h;simp at h
  |some x=>rw[hv] at h;simp at h ⊢;exact h
 ·
  rename_i x ho
  rw[ho] at h ⊢
  simpa using h
 ·
  rename_i x ho
  rw[ho] at h ⊢
  simpa using h
 ·
  cases hs
theorem qa8.laterS {o:Oper}{v:Value}{w':World}(hs:quC o.op=true)(hy:qa8 P ops o v a w):qa8 P ops o v a w' :=
 hy.imp (fun⟨h1,h2⟩=>⟨h1,fun w'' h3=>slot_run hs (h2 w (Agr.refl w)) w''⟩) id
theorem qa8.wpOp {i:Nat}{o:Oper}{v:Value}(hi:ops[i]? = some o)(hy:qa8 P ops o v a w){K:Act→World→Prop}(h:K (a.put o.dst v) w):wpOp P ops Q i K a w:=by
 unfold Go.wpOp
 simp only[hi]
 rcases hy with ⟨hw,hv⟩|⟨hw,rfl⟩
 ·
  simp only[hw,if_true,Oper.wp,hv w (Agr.refl w),Oper.upon];exact .inl h
 ·
  simp only[hw,Bool.false_eq_true,if_false];exact h
theorem qa8.of_same {o:Oper} {v:Value} {a a':Act} (hy:qa8 P ops o v a w) (he:execOp a'.eval o=execOp a.eval o)
  (hw:Region.wanted o (yielded ops a'.tmps)=Region.wanted o (yielded ops a.tmps)):qa8 P ops o v a' w:=by
 unfold qa8 at *
 rw[he,hw]
 exact hy
theorem q6P {lf:FuncId→Bool} {j:Nat} {oi oj:Oper} {v:Value} (hj:ops[j]? = some oj) (hap:oi.apart ops oj=true) (hkj:qcH lf oj.op=true∨quC oi.op=true)
  (hsi:∀ cs b,oi.op≠.select cs b) (hsj:∀ cs b,oj.op≠.select cs b) (hQ:∀ c a w,¬ Q (.panic c) a w) {K:Act→World→Prop}
  (hy:qa8 P ops oi v a w) (h:wpOp P ops Q j (fun a' w'=>(qoz lf ops j=true→Agr w w')∧K a' w') (a.put oi.dst v) w) :
  wpOp P ops Q j (fun a' w'=>(qoz lf ops j=true→Agr w w')∧qa8 P ops oi v a' w'∧K (a'.put oi.dst v) w') a w:=by
 obtain⟨h1,h2,h3⟩:=Oper.apart_spec hap
 have lat:∀ {a:Act} {w':World},qa8 P ops oi v a w→(qoz lf ops j=true→Agr w w')→qa8 P ops oi v a w':=fun hy hA=>by
  rcases hkj with hk|hk
  ·
   exact hy.later (hA (by unfold qoz;rw[hj];exact hk))
  ·
   exact hy.laterS hk
 have keep:∀ (a:Act),qa8 P ops oi v a w→∀ u,qa8 P ops oi v (a.put oj.dst u) w:=fun a hy u =>
  hy.of_same (execOp_put oi hsi a oj.dst u h3) (wanted_put oi a oj.dst u h3)
 have keepD:∀ d,qa8 P ops oi v {a with defers:=d::a.defers} w:=fun d=>hy.of_same rfl rfl
 unfold wpOp at *
 simp only[hj] at *
 rw[wanted_put oj a oi.dst v h1] at h
 split
 ·
  rename_i hw
  simp only[hw,if_true] at h
  rcases h with h|⟨hasks,hlets⟩
  case inr=>exact .inr ⟨by unfold Oper.asks at *;rw[execOp_put oj hsj a oi.dst v h1] at hasks;exact hasks,hlets⟩
  refine .inl ?_
  unfold Oper.wp at *
  rw[execOp_put oj hsj a oi.dst v h1] at h
  generalize (execOp a.eval oj).run P w=r at *
  cases r with
  |ok n w' =>
   cases n<;>simp only[Oper.upon] at h ⊢
   case value u=>exact⟨h.1,lat (keep a hy u) h.1,by rw[← Act.put_comm a v u h2];exact h.2⟩
   case skip=>exact⟨h.1,lat (keep a hy _) h.1,by rw[← Act.put_comm a v undef h2];exact h.2⟩
   case defer d =>
    refine⟨h.1,lat (keep _ (keepD d) _) h.1,?_⟩
    rw[← Act.put_comm _ v undef h2,← Act.put_defers]
    exact h.2
   case enter f args =>
    refine Calls.mono h fun e w'' he=>?_
    cases e with
    |returned u=>exact⟨he.1,lat (keep a hy u) he.1,by rw[← Act.put_comm a v u h2];exact he.2⟩
    |panicked c=>exact(hQ _ _ _ he).elim
    |outgrown=>exact he
   case row row args=>exact Rows.mono h fun u w'' he=>⟨he.1,lat (keep a hy u) he.1,by rw[← Act.put_comm a v u h2];exact he.2⟩
  |halt x w' =>
   cases x<;>simp only[Oper.upon] at h ⊢
   case panic u=>exact(hQ _ _ _ h).elim
 ·
  rename_i hw
  simp only[hw] at h
  exact⟨h.1,lat (keep a hy _) h.1,by rw[← Act.put_comm a v undef h2];exact h.2⟩
def qo0 (lf:FuncId→Bool)(P:Program)(ops:Array Oper)(Q:Exit→Act→World→Prop):Nat→Array Bool→Act→World→Prop
 |0,listed,a,w=>Region.ready .any ops listed=[]∧Q .normal a w
 |fuel+1,listed,a,w =>
  (Region.ready .any ops listed=[]→Q .normal a w) ∧
  ∀ i∈Region.ready .any ops listed,wpOp P ops Q i (fun a' w'=>(qoz lf ops i=true→Agr w w')∧qo0 lf P ops Q fuel (listed.setIfInBounds i true) a' w') a w
theorem qsf {lf:FuncId→Bool}:∀ (fuel:Nat) (listed:Array Bool) (a:Act) (w:World),qo0 lf P ops Q fuel listed a w→wpAny P .any ops Q fuel listed a w
 |0,_,_,_,h=>h
 |fuel+1,_,_,_,h=>⟨h.1,fun i hi=>wpOp_mono (fun a' w' h'=>qsf fuel _ a' w' h'.2) (h.2 i hi)⟩
theorem qxi {lf:FuncId→Bool} {i:Nat} {oi:Oper} {v:Value} {D:Nat→Bool} (hD:∀ j oj,ops[j]? = some oj→D j=true→∃ e∈oj.after,Region.binds .any e=true∧(e.on=i∨D e.on=true)) (hi:ops[i]? = some oi) (hsel:∀ (j:Nat) (o:Oper) cs b,ops[j]? = some o→o.op≠.select cs b)
  (hQ:∀ c a w,¬ Q (.panic c) a w) :
  ∀ (fuel:Nat) (listed:Array Bool) (a:Act) (w:World),(∀ j,D j=true→j≠i→listed.getD j false=false) →
   (∀ j oj,ops[j]? = some oj→j≠i→listed.getD j true=false→D j=false→oi.apart ops oj=true∧(qcH lf oj.op=true∨quC oi.op=true)) →
   i∈Region.ready .any ops listed→qa8 P ops oi v a w →
   qo0 lf P ops Q fuel (listed.setIfInBounds i true) (a.put oi.dst v) w→qo0 lf P ops Q (fuel+1) listed a w:=by
 intro fuel
 induction fuel with
 |zero =>
  intro listed a w _ _ hr hy H
  refine⟨fun h=>(by rw[h] at hr;cases hr),fun j hj=>?_⟩
  by_cases hji:j=i
  ·
   subst hji;exact hy.wpOp hi ⟨fun _=>Agr.refl w,H⟩
  ·
   have:=ready_mono hj hji
   rw[H.1] at this
   cases this
 |succ fuel ih =>
  intro listed a w hun0 hfree hr hy H
  refine⟨fun h=>(by rw[h] at hr;cases hr),fun j hj=>?_⟩
  by_cases hji:j=i
  ·
   subst hji;exact hy.wpOp hi ⟨fun _=>Agr.refl w,H⟩
  ·
   have h1:=H.2 j (ready_mono hj hji)
   obtain⟨hjun,oj,hoj,hall⟩:=mem_ready.1 hj
   have hi0:listed.getD i false=false:=by
    have h0:=(mem_ready.1 hr).1
    rcases Nat.lt_or_ge i listed.size with h'|h'
    ·
     simp[h'] at h0 ⊢;exact h0
    ·
     simp[Array.getElem?_eq_none h']
   have hnot:D j=false:=by
    cases hDj:D j with
    |false=>rfl
    |true =>
     obtain⟨e,he,hb,hor⟩:=hD j oj hoj hDj
     have h1:=hall e he hb
     by_cases hei:e.on=i
     ·
      rw[hei,hi0] at h1;cases h1
     ·
      rcases hor with c|c
      ·
       exact absurd c hei
      ·
       rw[hun0 _ c hei] at h1;cases h1
   obtain⟨f1,f2⟩:=hfree j oj hoj hji hjun hnot
   have h2:=q6P hoj f1 f2 (fun cs b=>hsel i oi cs b hi) (fun cs b=>hsel j oj cs b hoj) hQ hy h1
   have hfree':∀ k ok,ops[k]? = some ok→k≠i→(listed.setIfInBounds j true).getD k true=false →
     D k=false→oi.apart ops ok=true∧(qcH lf ok.op=true∨quC oi.op=true):=fun k ok hk hki hun hno=>by
    refine hfree k ok hk hki ?_ hno
    by_cases hjk:j=k
    ·
     subst hjk;exact hjun
    ·
     rw[getD_set_ne true hjk] at hun;exact hun
   have hun':∀ k,D k=true→k≠i→(listed.setIfInBounds j true).getD k false=false:=fun k hk hki=>by
    have hjk:j≠k:=fun e=>by rw[← e,hnot] at hk;cases hk
    rw[getD_set_ne false hjk];exact hun0 k hk hki
   refine wpOp_mono (fun a' w' h3=>⟨h3.1,ih (listed.setIfInBounds j true) a' w' hun' hfree' (ready_mono hr (Ne.symm hji)) h3.2.1 ?_⟩) h2
   rw[Array.setIfInBounds_comm _ _ hji]
   exact h3.2.2
theorem q0C {lf:FuncId→Bool} {id:Nat} (hm:P.follows .mixedOrders=true) {R:Act→World→Prop} (hR:∀ a w,R a w→Q .normal a w)
  (h:qo0 lf P ops (fun e a w=>match e with|.normal=>R a w|_=>False) ops.size (Array.replicate ops.size false) a {w with drawn:=w.drawn+1}):(Code.region id ops true).wp P Q a w :=
 wp_mono (wp_region_any hm (qsf _ _ _ _ h)) fun e a w he=>by
  cases e with
  |normal=>exact hR _ _ he
  |_=>exact he.elim
end
def qdE (n m:Nat):Array Bool:=((List.range n).map fun i=>Nat.testBit m i).toArray
theorem qiX (n m j:Nat)(d:Bool):(qdE n m).getD j d=if j<n then Nat.testBit m j else d:=by
 unfold qdE
 rw[Array.getD_eq_getD_getElem?]
 by_cases h:j<n
 ·
  rw[if_pos h];simp[h]
 ·
  rw[if_neg h];simp[h]
theorem arr_zero (n:Nat):qdE n 0=Array.replicate n false:=by
 unfold qdE
 apply Array.ext
 ·
  simp
 ·
  intro i h1 h2;simp
theorem q6Q (n m i:Nat):(qdE n m).setIfInBounds i true=qdE n (m ||| 2 ^ i):=by
 apply Array.ext
 ·
  simp[qdE]
 ·
  intro j h1 h2
  have hj:j<n:=by simpa [qdE] using h2
  rw[Array.getElem_setIfInBounds]
  ·
   by_cases e:i=j
   ·
    subst e
    simp[qdE,Nat.testBit_or,Nat.testBit_two_pow_self]
   ·
    simp[qdE,e,Nat.testBit_or,Nat.testBit_two_pow]
  ·
   simpa [qdE] using hj
theorem q6R (n m:Nat)(l:List Edge):qrW n m l=l.all fun e=>!Region.binds .any e||(qdE n m).getD e.on false:=by
 induction l with
 |nil=>rfl
 |cons e r ih =>
  unfold qrW
  rw[List.all_cons,← ih,qiX]
  cases Region.binds .any e with
  |false=>simp
  |true =>
   simp only[Bool.not_true,Bool.false_or]
   by_cases h:e.on<n
   ·
    rw[if_pos h]
    have:Nat.blt e.on n=true:=by simpa [Nat.blt,Nat.succ_le_iff] using h
    rw[this]
    cases Nat.testBit m e.on<;>rfl
   ·
    rw[if_neg h]
    have:Nat.blt e.on n=false:=by
     cases hb:Nat.blt e.on n with
     |false=>rfl
     |true=>exact absurd (by simpa [Nat.blt,Nat.succ_le_iff] using hb) h
    rw[this];rfl
theorem qxj {ops:Array Oper}(m:Nat):∀ (l:List Oper) (k:Nat),(∀ j,l[j]? = ops[k+j]?)→k+l.length=ops.size →
  qiF ops.size m l k=(List.range' k l.length).filter fun i=>!(qdE ops.size m).getD i true&&((ops[i]?).map (·.after.all fun e=>!Region.binds .any e||(qdE ops.size m).getD e.on false)).getD false
 | [],k,_,_=>rfl
 |o::r,k,hl,hk=>by
  have ih:=qxj m r (k+1) (fun j=>by have:=hl (j+1);simpa [Nat.add_assoc,Nat.add_comm 1 j] using this) (by simp only[List.length_cons] at hk;omega)
  have h0:ops[k]? = some o:=by simpa using (hl 0).symm
  simp only[List.length_cons] at hk
  unfold qiF
  have e1:((some o).map fun x=>x.after.all fun e=>!Region.binds .any e||(qdE ops.size m).getD e.on false).getD false=qrW ops.size m o.after.toList:=by
   rw[q6R];simp
  have e2:(qdE ops.size m).getD k true=Nat.testBit m k:=by rw[qiX,if_pos (show k<ops.size by omega)]
  rw[List.length_cons,List.range'_succ,List.filter_cons,h0,← ih,e1,e2]
  split<;>rename_i hc
  ·
   rw[if_pos hc]
  ·
   rw[if_neg (by rw[hc];simp)]
theorem qiY {ops:Array Oper}(m:Nat):Region.ready .any ops (qdE ops.size m)=qiF ops.toList.length m ops.toList 0:=by
 have:=qxj (ops:=ops) m ops.toList 0 (by simp) (by simp)
 rw[Array.length_toList,this,Array.length_toList,← List.range_eq_range']
 rfl
theorem q6S {i D:Nat}{l:List Edge}(h:q2P i D l=true):∃ e∈l,Region.binds .any e=true∧(e.on=i∨Nat.testBit D e.on=true):=by
 induction l with
 |nil=>cases h
 |cons e r ih =>
  unfold q2P at h
  split at h
  ·
   rename_i hc
   simp only[Bool.and_eq_true,Bool.or_eq_true] at hc
   exact⟨e,List.mem_cons_self ..,hc.1,hc.2.imp nbeq id⟩
  ·
   obtain⟨e',h1,h2⟩:=ih h
   exact⟨e',List.mem_cons_of_mem _ h1,h2⟩
theorem qo1 {i:Nat}:∀ (l:List Oper) (k D x:Nat),Nat.testBit D x=true→Nat.testBit (depM i l k D) x=true
 | [],_,_,_,h=>h
 |o::r,k,D,x,h=>by
  unfold depM
  split
  ·
   exact qo1 r _ _ x (by rw[Nat.testBit_or,h];rfl)
  ·
   exact qo1 r _ _ x h
theorem quX {i:Nat}:∀ (l:List Oper) (k D x:Nat),x<k→Nat.testBit (depM i l k D) x=true→Nat.testBit D x=true
 | [],_,_,_,_,h=>h
 |o::r,k,D,x,hx,h=>by
  unfold depM at h
  split at h
  ·
   have:=quX r (k+1) _ x (by omega) h
   rw[Nat.testBit_or,Nat.testBit_two_pow,decide_eq_false (by omega),Bool.or_false] at this
   exact this
  ·
   exact quX r (k+1) _ x (by omega) h
theorem q0D {i:Nat}:∀ (l:List Oper) (k D j:Nat) (oj:Oper),l[j]? = some oj→Nat.testBit (depM i l k D) (k+j)=true→Nat.testBit D (k+j)=true∨∃ e∈oj.after,Region.binds .any e=true∧(e.on=i∨Nat.testBit (depM i l k D) e.on=true)
 | [],_,_,j,_,hj,_=>by simp at hj
 |o::r,k,D,j,oj,hj,h=>by
  unfold depM at h ⊢
  cases j with
  |zero =>
   simp at hj
   subst hj
   split
   ·
    rename_i hc
    obtain⟨e,h1,h2,h3⟩:=q6S hc
    exact .inr ⟨e,by simpa using h1,h2,h3.imp id fun h=>qo1 r _ _ _ (by rw[Nat.testBit_or,h];rfl)⟩
   ·
    rename_i hc
    split at h
    ·
     rename_i hc2;rw[hc] at hc2;cases hc2
    ·
     exact .inl (quX r (k+1) D k (by omega) h)
  |succ j =>
   have hj':r[j]? = some oj:=by simpa using hj
   split at h
   ·
    rename_i hc
    have h':Nat.testBit (depM i r (k+1) (D ||| 2 ^ k)) (k+1+j)=true:=by rw[show k+1+j=k+(j+1) by omega];exact h
    rcases q0D r (k+1) _ j oj hj' h' with c|c
    ·
     left
     rw[Nat.testBit_or,Nat.testBit_two_pow,decide_eq_false (by omega),Bool.or_false,show k+1+j=k+(j+1) by omega] at c
     exact c
    ·
     right;exact c
   ·
    rename_i hc
    have h':Nat.testBit (depM i r (k+1) D) (k+1+j)=true:=by rw[show k+1+j=k+(j+1) by omega];exact h
    rcases q0D r (k+1) _ j oj hj' h' with c|c
    ·
     left;rw[show k+1+j=k+(j+1) by omega] at c;exact c
    ·
     right;exact c
theorem q4O (n:Nat)(k:Nat→Bool):q6x n k=k n:=by cases n<;>rfl
theorem qo2 {lf:FuncId→Bool}{ops:Array Oper}{m i D:Nat}{oi:Oper}:∀ {l:List Oper} {k:Nat},q0x lf ops m i D oi l k=true→∀ (j:Nat) (oj:Oper),l[j]? = some oj →
  (Nat.beq (k+j) i||(match Nat.testBit D (k+j) with|true=>!Nat.testBit m (k+j)|false=>Nat.testBit m (k+j)||(oi.apart ops oj&&(qcH lf oj.op||quC oi.op))))=true
 | [],_,_,j,oj,h=>by simp at h
 |o::r,k,hf,j,oj,h=>by
  unfold q0x at hf
  split at hf
  ·
   rename_i hc
   cases j with
   |zero=>simp at h;subst h;exact hc
   |succ j =>
    have:=qo2 hf j oj (by simpa using h)
    rwa [show k+1+j=k+(j+1) by omega] at this
  ·
   cases hf
theorem q6T {j i:Nat}(hji:j≠i):Nat.beq j i=false:=by
 cases hb:Nat.beq j i with
 |false=>rfl
 |true=>exact absurd (nbeq hb) hji
theorem freeM_ok {lf:FuncId→Bool} {ops:Array Oper} {m i D:Nat} {oi:Oper} (h:q0x lf ops m i D oi ops.toList 0=true) (j:Nat) (oj:Oper) (hj:ops[j]? = some oj) (hji:j≠i) (hun:Nat.testBit m j=false)
  (hno:Nat.testBit D j=false):oi.apart ops oj=true∧(qcH lf oj.op=true∨quC oi.op=true):=by
 have:=qo2 h j oj (by simpa using hj)
 rw[Nat.zero_add,q6T hji,hno] at this
 dsimp only at this
 rw[hun] at this
 simpa using this
theorem freeM_un {lf:FuncId→Bool}{ops:Array Oper}{m i D:Nat}{oi:Oper}(h:q0x lf ops m i D oi ops.toList 0=true)(j:Nat)(hj:j<ops.size)(hji:j≠i)(hD:Nat.testBit D j=true):Nat.testBit m j=false:=by
 have:=qo2 h j _ (by rw[Array.getElem?_toList];exact Array.getElem?_eq_getElem hj)
 rw[Nat.zero_add,q6T hji,hD] at this
 simpa using this
end Go.Eng
namespace Go.Eng
open Go
section
variable {w0 w : World} {bor : Bor} {im0 im : Nat → Prop} {ρ : Ids} {σ : AS} {a : Act}
theorem St.reslot {sl sl':List AV} {gs gs':List (Nat×Nat×Bool)} {L:Nat→Option Blk} (h:St w0 bor im0 im ρ sl gs L a w) (hl:sl'.length=sl.length)
  (hs:∀ (i:Nat) (v:Value),a.tmps[i]? = some v→SRep w im ρ gs sl a.tmps i v→SRep w im ρ gs' sl' a.tmps i v):St w0 bor im0 im ρ sl' gs' L a w :=
 {
  h with
  len:=by rw[hl];exact h.len
  slot:=fun i v hv=>hs i v hv (h.slot i v hv)}
theorem SA.reslot (h:SA w0 bor im0 im ρ σ a w) {tc:Nat} {x:AV} {gs':List (Nat×Nat×Bool)} (hg:∀ i,i≠tc→gget gs' i=gget σ.gs i) (hn:gget gs' tc=none)
  (hr:∀ v,a.tmps[tc]? = some v→Rep w im ρ v x):SA w0 bor im0 im ρ ⟨qav σ.slots tc x,gs',σ.locs⟩ a w:=by
 refine⟨h.st.reslot (by rw[qb7];simp) fun i v hv hs=>?_,h.uniq⟩
 by_cases e:i=tc
 ·
  subst e
  unfold SRep
  dsimp only
  rw[hn]
  dsimp only
  rw[qdD]
  have hlt:i<σ.slots.length:=by rw[← h.st.len];exact qf0 hv
  rw[if_pos ⟨rfl,hlt⟩]
  exact hr v hv
 ·
  unfold SRep at hs ⊢
  dsimp only
  rw[hg i e,qdD,if_neg (by rintro⟨e',-⟩;exact e e'.symm)]
  exact hs
theorem SA.regs (h:SA w0 bor im0 im ρ σ a w) {tc:Nat} {gs':List (Nat×Nat×Bool)} (hg:∀ i,i≠tc→gget gs' i=gget σ.gs i) (hn:gget gs' tc=none)
  (hr:∀ v,a.tmps[tc]? = some v→Rep w im ρ v (nth σ.slots tc)):SA w0 bor im0 im ρ ⟨σ.slots,gs',σ.locs⟩ a w:=by
 refine⟨h.st.reslot rfl fun i v hv hs=>?_,h.uniq⟩
 by_cases e:i=tc
 ·
  subst e
  unfold SRep
  dsimp only
  rw[hn]
  exact hr v hv
 ·
  unfold SRep at hs ⊢
  dsimp only
  rw[hg i e]
  exact hs
def Dec (σ:AS)(a:Act)(tc:Nat):Prop :=
 gget σ.gs tc=none∧((∃ b,nth σ.slots tc=.bool b∧a.tmps[tc]? = some (.bool b))∨((∀ b,nth σ.slots tc≠.bool b)∧∀ b,a.tmps[tc]?≠some (.bool b)))
theorem q6J {l:List AV}{i:Nat}(h:nth l i≠.dead):i<l.length:=by
 rcases Nat.lt_or_ge i l.length with h1|h1
 ·
  exact h1
 ·
  exact absurd (qiG l i h1) h
theorem SA.get (h:SA w0 bor im0 im ρ σ a w){tc:Nat}(hn:nth σ.slots tc≠.dead):∃ v,a.tmps[tc]? = some v:=by
 have:=q6J hn
 rw[← h.st.len] at this
 exact⟨a.tmps[tc],by simp[this]⟩
theorem qkC {v:Value}(h:Rep w im ρ v (.tup [])):v=undef:=by
 obtain⟨vs,rfl,hl,-⟩:=h.inv_tup
 have:vs=#[]:=Array.eq_empty_of_size_eq_zero (by simpa using hl)
 subst this;rfl
theorem Dec.boolIs {tc:Nat}{b:Bool}(h:Dec σ a tc)(hn:nth σ.slots tc=.bool b):a.tmps[tc]? = some (.bool b):=by
 rcases h.2 with ⟨b',h1,h2⟩|⟨h1,-⟩
 ·
  rw[hn] at h1;simp only[AV.bool.injEq] at h1;subst h1;exact h2
 ·
  exact absurd hn (h1 b)
theorem Dec.not {tc:Nat}(h:Dec σ a tc)(hn:∀ b,nth σ.slots tc≠.bool b)(b:Bool):a.tmps[tc]?≠some (.bool b):=by
 rcases h.2 with ⟨b',h1,h2⟩|⟨h1,h2⟩
 ·
  exact absurd h1 (hn _)
 ·
  exact h2 b
theorem qma:∀ (n:Nat) (σ:AS) (tc:Nat) (k:AS→Prop),SA w0 bor im0 im ρ σ a w→qk4 σ n tc k→∃ σ',k σ'∧SA w0 bor im0 im ρ σ' a w∧Dec σ' a tc
 |0,_,_,_,_,hv=>hv.elim
 |n+1,σ,tc,k,h,hv=>by
  unfold qk4 at hv
  split at hv
  ·
   rename_i hg
   have hsl:∀ v,a.tmps[tc]? = some v→Rep w im ρ v (nth σ.slots tc):=fun v hv=>by
    have:=h.st.slot tc v hv
    unfold SRep at this
    rw[hg] at this
    exact this
   split at hv
   ·
    rename_i b hn
    obtain⟨v,hv'⟩:=h.get (tc:=tc) (by rw[hn];simp)
    have hr:=hsl v hv'
    rw[hn] at hr
    have e:=hr.inv_bool
    subst e
    have hset:∀ x,nth (qav σ.slots tc x) tc=x:=fun x=>by rw[qdD,if_pos ⟨rfl,q6J (by rw[hn];simp)⟩]
    cases b with
    |true=>exact⟨_,hv,h.reslot (fun _ _=>rfl) hg (fun v h'=>by rw[hv'] at h';cases h';exact .bool),hg,.inl ⟨_,hset _,hv'⟩⟩
    |false=>exact⟨_,hv,h.reslot (fun _ _=>rfl) hg (fun v h'=>by rw[hv'] at h';cases h';exact .bool),hg,.inl ⟨_,hset _,hv'⟩⟩
   ·
    rename_i hn
    obtain⟨v,hv'⟩:=h.get (tc:=tc) (by rw[hn];simp)
    have hr:=hsl v hv'
    rw[hn] at hr
    have e:=qkC hr
    subst e
    exact⟨_,hv,h,hg,.inr ⟨by rw[hn];simp,by rw[hv'];simp[undef]⟩⟩
   ·
    exact hv.elim
  ·
   rename_i tc' w1 hg
   obtain⟨σ',hk,h',hD⟩:=qma n σ tc' _ h hv
   split at hk
   ·
    exact hk.elim
   ·
    rename_i tc2 w' hg'
    split at hk
    ·
     exact hk.elim
    ·
     rename_i hb
     have e:=nbeq hb
     subst e
     have hsl:∀ v,a.tmps[tc]? = some v→(a.tmps[tc2]? = some (.bool w')→Rep w im ρ v (nth σ'.slots tc))∧(a.tmps[tc2]?≠some (.bool w')→v=undef):=fun v hv=>by
      have:=h'.st.slot tc v hv
      unfold SRep at this
      rw[hg'] at this
      exact this
     have hne:∀ i,i≠tc→gget (gdel σ'.gs tc) i=gget σ'.gs i:=fun i hi=>qcI _ hi
     have hsame:gget (gdel σ'.gs tc) tc=none:=qhB _ _
     have hundef:a.tmps[tc2]?≠some (.bool w')→k {σ' with slots:=qav σ'.slots tc (.tup []),gs:=gdel σ'.gs tc}→∃ σ',k σ'∧SA w0 bor im0 im ρ σ' a w∧Dec σ' a tc:=by
      intro hx hk
      rcases Nat.lt_or_ge tc σ'.slots.length with hlt|hge
      ·
       have hlt':=hlt
       rw[← h'.st.len] at hlt'
       have hv':a.tmps[tc]? = some a.tmps[tc]:=by simp[hlt']
       have e:=(hsl _ hv').2 hx
       rw[e] at hv'
       refine⟨_,hk,h'.reslot hne hsame (fun v h1=>by rw[hv'] at h1;cases h1;exact qaW),hsame,.inr ⟨?_,by rw[hv'];simp[undef]⟩⟩
       dsimp only
       rw[qdD,if_pos ⟨rfl,hlt⟩];simp
      ·
       have hnone:a.tmps[tc]? = none:=by rw[Array.getElem?_eq_none_iff];rw[h'.st.len];exact hge
       refine⟨_,hk,h'.reslot hne hsame (fun v h1=>by rw[hnone] at h1;cases h1),hsame,.inr ⟨?_,by rw[hnone];simp⟩⟩
       dsimp only
       rw[qiG _ _ (by rw[qb7];simpa using hge)];simp
     split at hk
     ·
      rename_i b hn
      have hb2:=hD.boolIs hn
      split at hk
      ·
       rename_i hbw
       have:=qdC.1 hbw
       subst this
       split at hk
       ·
        rename_i b' hn'
        obtain⟨v,hv'⟩:=h'.get (tc:=tc) (by rw[hn'];simp)
        have hr:=(hsl v hv').1 hb2
        rw[hn'] at hr
        have e:=hr.inv_bool
        subst e
        have hset:∀ x,nth (qav σ'.slots tc x) tc=x:=fun x=>by rw[qdD,if_pos ⟨rfl,q6J (by rw[hn'];simp)⟩]
        cases b' with
        |true=>exact⟨_,hk,h'.reslot hne hsame (fun v h1=>by rw[hv'] at h1;cases h1;exact .bool),hsame,.inl ⟨_,hset _,hv'⟩⟩
        |false=>exact⟨_,hk,h'.reslot hne hsame (fun v h1=>by rw[hv'] at h1;cases h1;exact .bool),hsame,.inl ⟨_,hset _,hv'⟩⟩
       ·
        rename_i hn'
        obtain⟨v,hv'⟩:=h'.get (tc:=tc) (by rw[hn'];simp)
        have hr:=(hsl v hv').1 hb2
        rw[hn'] at hr
        have e:=qkC hr
        subst e
        refine⟨_,hk,h'.regs hne hsame (fun v h1=>by rw[hv'] at h1;cases h1;rw[hn'];exact qaW),hsame,.inr ⟨by dsimp only;rw[hn'];simp,by rw[hv'];simp[undef]⟩⟩
       ·
        exact hk.elim
      ·
       rename_i hbw
       refine hundef (fun h1=>?_) hk
       rw[hb2] at h1
       simp only[Option.some.injEq,Value.bool.injEq] at h1
       rw[h1] at hbw
       have:=qdC.2 (rfl:w'=w')
       rw[this] at hbw;cases hbw
     ·
      rename_i hn
      exact hundef (hD.not (by rw[hn];simp) w') hk
     ·
      exact hk.elim
theorem qen (h:SA w0 bor im0 im ρ σ a w):∀ (n:Nat) (tc:Nat) (b:Bool),a.tmps[tc]? = some (.bool b)→All (q0w σ n tc b)
 |0,_,_,_=>trivial
 |n+1,tc,b,hb=>by
  have hs:=h.st.slot tc _ hb
  unfold SRep at hs
  unfold q0w
  split
  ·
   rename_i hg
   rw[hg] at hs
   split
   ·
    rename_i b' hn
    dsimp only at hs
    rw[hn] at hs
    have:=hs.inv_bool
    simp only[Value.bool.injEq] at this
    exact⟨this.symm,trivial⟩
   ·
    trivial
  ·
   rename_i tc' w' hg
   rw[hg] at hs
   have h1:a.tmps[tc']? = some (.bool w'):=by
    rcases Classical.em (a.tmps[tc']? = some (.bool w')) with h1|h1
    ·
     exact h1
    ·
     have:=hs.2 h1;simp[undef] at this
   split
   ·
    rename_i b' hn
    have:=hs.1 h1
    rw[hn] at this
    have:=this.inv_bool
    simp only[Value.bool.injEq] at this
    exact⟨this.symm,qen h n _ _ h1⟩
   ·
    exact qen h n _ _ h1
theorem fold_get (gs:List (Nat×Nat×Bool)):∀ (sl:List AV),(gs.foldl (fun s g=>qav s g.1 .dead) sl).length=sl.length ∧
  ∀ i,nth (gs.foldl (fun s g=>qav s g.1 .dead) sl) i=.dead∨(nth (gs.foldl (fun s g=>qav s g.1 .dead) sl) i=nth sl i∧(gget gs i=none)):=by
 induction gs with
 |nil=>intro sl;exact⟨rfl,fun i=>.inr ⟨rfl,rfl⟩⟩
 |cons x r ih =>
  obtain⟨t,g,b⟩:=x
  intro sl
  obtain⟨h1,h2⟩:=ih (qav sl t .dead)
  refine⟨by simp only[List.foldl_cons];rw[h1,qb7];simp,fun i=>?_⟩
  simp only[List.foldl_cons]
  rcases h2 i with h3|⟨h3,h4⟩
  ·
   exact .inl h3
  ·
   rw[h3,qdD]
   by_cases e:t=i
   ·
    subst e
    left
    split
    ·
     rfl
    ·
     rename_i hh
     have:¬ t<sl.length:=fun e=>hh ⟨rfl,e⟩
     exact qiG _ _ (by omega)
   ·
    rw[if_neg (by rintro⟨e',-⟩;exact e e')]
    right
    refine⟨rfl,?_⟩
    unfold gget
    have:Nat.beq t i=false:=by
     cases hb:Nat.beq t i with
     |false=>rfl
     |true=>exact absurd (nbeq hb) e
    rw[this]
    exact h4
theorem SA.drop (h:SA w0 bor im0 im ρ σ a w):SA w0 bor im0 im ρ σ.drop a w:=by
 obtain⟨h1,h2⟩:=fold_get σ.gs σ.slots
 refine⟨h.st.reslot (by exact h1) fun i v hv hs=>?_,h.uniq⟩
 show Rep w im ρ v (nth (σ.gs.foldl (fun s g=>qav s g.1 .dead) σ.slots) i)
 rcases h2 i with h3|⟨h3,h4⟩
 ·
  rw[h3];exact .dead
 ·
  rw[h3]
  unfold SRep at hs
  rw[h4] at hs
  exact hs
theorem qow {env:Env} (hΓ:Gam env.P env.spec env.yw w0 bor im0) {o:Oper} {g:Gd} {id:Nat} {K:AS→Prop} {next:Act→World→Prop} {Q:Exit→Act→World→Prop} {im:Nat→Prop} {ρ:Ids}
  (h:SA w0 bor im0 im ρ σ a w) (hg:GdOK a g) (hv:qoe env σ g o id K) (hn:Then (qb9 env) w o w0 bor im0 K next):o.wp env.P a w next Q:=by
 unfold qoe at hv
 split at hv
 ·
  rename_i pre v hp
  obtain⟨h1,h2⟩:=quN hv
  obtain⟨val,h3,h4⟩:=qiL (w:=w) h.st.len h.st.slot h.st.blk hg hp h1
  split at h2
  ·
   exact h2.elim
  ·
   rename_i hcl
   exact qaN (h3 w (Agr.refl w)) (hn _ _ _ _ _ (q2V h4 h2) (h.put hcl h4) fun _=>Agr.refl w)
 ·
  split at hv
  ·
   exact qov hΓ h hg (qau (k:=fun id=>eop env σ g o id K) hv) hn
  ·
   split at hv
   ·
    obtain⟨im1,ρ1,h1⟩:=SA.youngL hΓ.yg (qiC σ.locs) h
    exact qov hΓ h1 hg (q6A (k:=fun y=>eop env (σ.youngL y (qiC σ.locs)) g o id K) hv) hn
   ·
    exact qov hΓ h hg hv hn
theorem qxg {o:Oper}{K:AS→Prop}{im:Nat→Prop} {ρ:Ids}(h:SA w0 bor im0 im ρ σ a w)(hv:qfz σ o K):∃ σ',K σ'∧SA w0 bor im0 im ρ σ' (a.put o.dst undef) w:=by
 unfold qfz at hv
 split at hv
 ·
  exact hv.elim
 ·
  rename_i hcl
  exact⟨_,hv,h.put hcl qaW⟩
theorem q2Y {tc:Nat}{im:Nat→Prop} {ρ:Ids}(h:SA w0 bor im0 im ρ σ a w)(hg:noGs σ.gs=true)(hx:(∃ b,nth σ.slots tc=.bool b)∨nth σ.slots tc=.tup []):Dec σ a tc:=by
 have hgs:σ.gs=[]:=by
  cases hs:σ.gs with
  |nil=>rfl
  |cons x r=>rw[hs] at hg;cases hg
 have hgn:gget σ.gs tc=none:=by rw[hgs];rfl
 have hd:nth σ.slots tc≠.dead:=by rcases hx with ⟨b,hx⟩|hx<;>rw[hx]<;>simp
 obtain⟨v,hv⟩:=h.get hd
 have hr:Rep w im ρ v (nth σ.slots tc):=by
  have:=h.st.slot tc v hv
  unfold SRep at this
  rw[hgn] at this
  exact this
 rcases hx with ⟨b,hx⟩|hx
 ·
  rw[hx] at hr
  have:=hr.inv_bool;subst this
  exact⟨hgn,.inl ⟨b,hx,hv⟩⟩
 ·
  rw[hx] at hr
  have:=qkC hr;subst this
  exact⟨hgn,.inr ⟨by rw[hx];simp,by rw[hv];simp[undef]⟩⟩
section one
variable {ops : Array Oper}
theorem qse {j tc:Nat}(htc:(ops.toList[j]?).bind (·.dst)=some tc)(a:Act):yielded ops a.tmps j=match a.tmps[tc]? with|some (.bool b)=>some b|_=>none:=by
 unfold yielded
 have e:(ops[j]?).bind (·.dst)=some tc:=by rw[← htc];simp
 rw[e];rfl
theorem qgp {o:Oper}{j tc:Nat}{b:Bool}(hog:o.guard=some (j,b))(htc:(ops.toList[j]?).bind (·.dst)=some tc){a:Act}(e:a.tmps[tc]? = some (.bool b)):Region.wanted o (yielded ops a.tmps)=true:=by
 unfold Region.wanted;rw[hog];dsimp only;rw[qse htc,e];simp
theorem qiT {o:Oper}{j tc:Nat}{b:Bool}(hog:o.guard=some (j,b))(htc:(ops.toList[j]?).bind (·.dst)=some tc){a:Act}(e:a.tmps[tc]?≠some (.bool b)):Region.wanted o (yielded ops a.tmps)=false:=by
 unfold Region.wanted;rw[hog]
 dsimp only
 rw[qse htc]
 split
 ·
  rename_i b' hb'
  rw[hb'] at e
  cases b<;>cases b'<;>simp_all
 ·
  rfl
theorem qhV {env:Env} (hΓ:Gam env.P env.spec env.yw w0 bor im0) {o:Oper} {id:Nat} {K:AS→Prop} {next:Act→World→Prop} {Q:Exit→Act→World→Prop} {im:Nat→Prop} {ρ:Ids}
  (h:SA w0 bor im0 im ρ σ a w) (hv:qrr env ops.toList o id σ K) (hn:Then (qb9 env) w o w0 bor im0 K next) :
  if Region.wanted o (yielded ops a.tmps) then o.wp env.P a w next Q else next (a.put o.dst undef) w:=by
 unfold qrr at hv
 split at hv
 ·
  rename_i hog
  rw[if_pos (by simp[Region.wanted,hog])]
  exact qow hΓ h (fun _ _ e=>by cases e) hv hn
 ·
  rename_i j b hog
  split at hv
  ·
   exact hv.elim
  ·
   rename_i tc htc
   have hskip:∀ {σ':AS} {im':Nat→Prop} {ρ':Ids},SA w0 bor im0 im' ρ' σ' a w→qfz σ' o K→a.tmps[tc]?≠some (.bool b) →
     if Region.wanted o (yielded ops a.tmps) then o.wp env.P a w next Q else next (a.put o.dst undef) w:=fun{σ' im' ρ'} h' hk hne=>by
    rw[qiT hog htc hne,if_neg (by simp)]
    obtain⟨σ'',h1,h2⟩:=qxg h' hk
    exact hn _ _ _ _ _ h1 h2 fun _=>Agr.refl w
   have hrun:∀ {σ':AS} {im':Nat→Prop} {ρ':Ids},SA w0 bor im0 im' ρ' σ' a w→qoe env σ' (some (tc,b)) o id K→a.tmps[tc]? = some (.bool b) →
     if Region.wanted o (yielded ops a.tmps) then o.wp env.P a w next Q else next (a.put o.dst undef) w:=fun{σ' im' ρ'} h' hk hb=>by
    rw[if_pos (qgp hog htc hb)]
    exact qow hΓ h' (fun _ _ e=>by cases e;exact hb) hk hn
   have hdec:∀ {σ':AS} {im':Nat→Prop} {ρ':Ids} {b':Bool},SA w0 bor im0 im' ρ' σ' a w→Dec σ' a tc→nth σ'.slots tc=.bool b'→(match beqB b' b with|true=>qoe env σ' (some (tc,b)) o id K|false=>qfz σ' o K) →
     if Region.wanted o (yielded ops a.tmps) then o.wp env.P a w next Q else next (a.put o.dst undef) w:=fun{σ' im' ρ' b'} h' hD hn' hk=>by
    have hb2:=hD.boolIs hn'
    split at hk
    ·
     rename_i hbw
     have:=qdC.1 hbw
     subst this
     exact hrun h' hk hb2
    ·
     rename_i hbw
     refine hskip h' hk fun e=>?_
     rw[hb2] at e
     simp only[Option.some.injEq,Value.bool.injEq] at e
     rw[e] at hbw
     have:=qdC.2 (rfl:b=b)
     rw[this] at hbw;cases hbw
   split at hv
   ·
    split at hv
    ·
     rename_i b' hgs hn'
     exact hdec h (q2Y h hgs (.inl ⟨b',hn'⟩)) hn' hv
    ·
     rename_i hgs hn'
     exact hskip h hv ((q2Y h hgs (.inr hn')).not (fun b e=>by rw[hn'] at e;cases e) b)
    ·
     exact hv.elim
   ·
    split at hv
    ·
     rename_i pre v hp
     obtain⟨h1,h2⟩:=qxf hv
     split at h2
     ·
      rename_i hcl hdt
      have hd:∀ d,o.dst=some d→d≠tc:=fun d e=>by
       rw[e] at hdt
       exact qbA hdt
      by_cases hb:a.tmps[tc]? = some (.bool b)
      ·
       rw[if_pos (qgp hog htc hb)]
       have hg:GdOK a (some (tc,b)):=fun _ _ e=>by cases e;exact hb
       obtain⟨val,h3,h4⟩:=qiL (w:=w) h.st.len h.st.slot h.st.blk hg hp (h1 (qen h _ _ _ hb))
       exact qaN (h3 w (Agr.refl w)) (hn _ _ _ _ _ (qnh h2) (h.putG hcl hd (fun _=>h4) (fun e=>absurd hb e)) fun _=>Agr.refl w)
      ·
       rw[qiT hog htc hb,if_neg (by simp)]
       exact hn _ _ _ _ _ (qnh h2) (h.putG hcl hd (fun e=>absurd e hb) (fun _=>rfl)) fun _=>Agr.refl w
     ·
      exact h2.elim
    ·
     obtain⟨σ',hk,h',hD⟩:=qma _ _ _ _ h hv
     split at hk
     ·
      rename_i b' hn'
      exact hdec h' hD hn' hk
     ·
      rename_i hn'
      exact hskip h' hk (hD.not (fun b e=>hn' b e) b)
theorem q6K {env:Env} {o:Oper} {id:Nat} {K:AS→Prop} {im:Nat→Prop} {ρ:Ids}
  (h:SA w0 bor im0 im ρ σ a w) (hp:popB env σ ops.toList o=true) (hv:qrr env ops.toList o id σ K) :
  ∃ v σ',qa8 env.P ops o v a w∧K σ'∧SA w0 bor im0 im ρ σ' (a.put o.dst v) w:=by
 have hrun:∀ {g:Gd},GdOK a g→Region.wanted o (yielded ops a.tmps)=true→(match pop env.P σ g o with|.ok _ _=>true|.bad=>false)=true→qoe env σ g o id K →
   ∃ v σ',qa8 env.P ops o v a w∧K σ'∧SA w0 bor im0 im ρ σ' (a.put o.dst v) w:=fun{g} hg hw hp hv=>by
  unfold qoe at hv
  split at hv
  ·
   rename_i pre v hp'
   obtain⟨h1,h2⟩:=quN hv
   obtain⟨val,h3,h4⟩:=qiL (w:=w) h.st.len h.st.slot h.st.blk hg hp' h1
   split at h2
   ·
    exact h2.elim
   ·
    rename_i hcl
    exact⟨val,_,.inl ⟨hw,h3⟩,q2V h4 h2,h.put hcl h4⟩
  ·
   rename_i hp'
   rw[hp'] at hp;cases hp
 unfold qrr at hv
 unfold popB at hp
 split at hv
 ·
  rename_i hog
  simp only[hog] at hp
  exact hrun (fun _ _ e=>by cases e) (by simp[Region.wanted,hog]) hp hv
 ·
  rename_i j b hog
  simp only[hog] at hp
  split at hv
  ·
   exact hv.elim
  ·
   rename_i tc htc
   simp only[htc] at hp
   have hskip:qfz σ o K→a.tmps[tc]?≠some (.bool b)→∃ v σ',qa8 env.P ops o v a w∧K σ'∧SA w0 bor im0 im ρ σ' (a.put o.dst v) w:=fun hk hne=>by
    obtain⟨σ'',h1,h2⟩:=qxg h hk
    exact⟨undef,σ'',.inr ⟨qiT hog htc hne,rfl⟩,h1,h2⟩
   split at hv
   ·
    rename_i hlit
    simp only[hlit] at hp
    split at hv
    ·
     rename_i b' hgs hn'
     simp only[hgs,hn'] at hp
     have hD:=q2Y h hgs (.inl ⟨b',hn'⟩)
     have hb2:=hD.boolIs hn'
     split at hv
     ·
      rename_i hbw
      simp only[hbw] at hp
      have:=qdC.1 hbw
      subst this
      exact hrun (fun _ _ e=>by cases e;exact hb2) (qgp hog htc hb2) hp hv
     ·
      rename_i hbw
      refine hskip hv fun e=>?_
      rw[hb2] at e
      simp only[Option.some.injEq,Value.bool.injEq] at e
      rw[e] at hbw
      have:=qdC.2 (rfl:b=b)
      rw[this] at hbw;cases hbw
    ·
     rename_i hgs hn'
     exact hskip hv ((q2Y h hgs (.inr hn')).not (fun b e=>by rw[hn'] at e;cases e) b)
    ·
     exact hv.elim
   ·
    rename_i hlit
    simp only[hlit] at hp
    split at hv
    ·
     rename_i pre v hp'
     obtain⟨h1,h2⟩:=qxf hv
     split at h2
     ·
      rename_i hcl hdt
      have hd:∀ d,o.dst=some d→d≠tc:=fun d e=>by
       rw[e] at hdt
       exact qbA hdt
      by_cases hb:a.tmps[tc]? = some (.bool b)
      ·
       have hg:GdOK a (some (tc,b)):=fun _ _ e=>by cases e;exact hb
       obtain⟨val,h3,h4⟩:=qiL (w:=w) h.st.len h.st.slot h.st.blk hg hp' (h1 (qen h _ _ _ hb))
       exact⟨val,_,.inl ⟨qgp hog htc hb,h3⟩,qnh h2,h.putG hcl hd (fun _=>h4) (fun e=>absurd hb e)⟩
      ·
       exact⟨undef,_,.inr ⟨qiT hog htc hb,rfl⟩,qnh h2,h.putG hcl hd (fun e=>absurd e hb) (fun _=>rfl)⟩
     ·
      exact h2.elim
    ·
     rename_i hp'
     rw[hp'] at hp;cases hp
end one
theorem qox {env:Env}(hΓ:Gam env.P env.spec env.yw w0 bor im0){ops:Array Oper}{Q:Exit→Act→World→Prop}{k:AS→Prop}:∀ (rest:List Oper) (id:Nat) {σ:AS} {a:Act} {w:World} {im:Nat→Prop} {ρ:Ids},SA w0 bor im0 im ρ σ a w→q4B env ops.toList rest id σ k→(∀ σ' a' w' im' ρ',k σ'→SA w0 bor im0 im' ρ' σ' a' w'→Q .normal a' w')→wpList env.P ops Q rest a w
 | [],id,σ,a,w,im,ρ,h,hv,hn=>hn _ _ _ _ _ (quO hv) h.drop
 |o::rest,id,σ,a,w,im,ρ,h,hv,hn=>by
  unfold q4B at hv
  unfold wpList
  have:=qhV (ops:=ops) (Q:=Q) (next:=wpList env.P ops Q rest) hΓ h hv fun σ' a' w' im' ρ' hk h' _=>qox hΓ rest _ h' hk hn
  split
  ·
   rename_i hw
   rw[if_pos hw] at this
   exact .inl this
  ·
   rename_i hw
   rw[if_neg hw] at this
   exact this
theorem q2Z:∀ {l:List Oper},q4C l=true→∀ (j:Nat) (o:Oper) cs b,l[j]? = some o→o.op≠.select cs b
 | [],_,j,o,cs,b,h=>by simp at h
 |x::r,hs,j,o,cs,b,h=>by
  unfold q4C at hs
  split at hs
  ·
   cases hs
  ·
   rename_i hx
   cases j with
   |zero=>simp at h;subst h;exact hx cs b
   |succ j=>exact q2Z hs j o cs b (by simpa using h)
theorem q3a {l:List Oper}{f:Nat→Oper→Prop}:∀ {rs:List Nat},allM l f rs→∀ i∈rs,∃ o,l[i]? = some o∧f i o
 | [],_,i,hi=>by cases hi
 |x::r,h,i,hi=>by
  have key:(match l[x]? with|some o=>f x o|none=>False)→∃ o,l[x]? = some o∧f x o:=fun h=>by
   split at h
   ·
    exact⟨_,‹_›,h⟩
   ·
    exact h.elim
  unfold allM at h
  split at h
  ·
   have hi:i=x:=by simpa using hi
   subst hi;exact key h
  ·
   rcases List.mem_cons.1 hi with rfl|hi
   ·
    exact key h.1
   ·
    exact q3a h.2 i hi
theorem q3b {env:Env}{ops:Array Oper}{m:Nat}:∀ {rs:List Nat} {i:Nat} {o:Oper},q6y env σ ops m rs=some (i,o)→i∈rs∧ops.toList[i]? = some o∧popB env σ ops.toList o=true∧q0x (qb9 env) ops m i (depM i ops.toList 0 0) o ops.toList 0=true
 | [],i,o,h=>by cases h
 |x::r,i,o,h=>by
  unfold q6y at h
  split at h
  ·
   cases h
  ·
   rename_i o' ho'
   split at h
   ·
    rename_i hb
    simp only[Bool.and_eq_true] at hb
    simp only[Option.some.injEq,Prod.mk.injEq] at h
    obtain⟨rfl,rfl⟩:=h
    exact⟨List.mem_cons_self ..,ho',hb.1,by have:=hb.2;rwa [q4O] at this⟩
   ·
    obtain⟨h1,h2⟩:=q3b h
    exact⟨List.mem_cons_of_mem _ h1,h2⟩
theorem qhW {env:Env}(hΓ:Gam env.P env.spec env.yw w0 bor im0){ops:Array Oper}{Q:Exit→Act→World→Prop}{k:AS→Prop}{id:Nat}(hsel:q4C ops.toList=true)(hQ:∀ c a w,¬ Q (.panic c) a w):∀ (n m:Nat) {σ:AS} {a:Act} {w:World} {im:Nat→Prop} {ρ:Ids},SA w0 bor im0 im ρ σ a w→qof env ops id n m σ k→(∀ σ' a' w' im' ρ',k σ'→SA w0 bor im0 im' ρ' σ' a' w'→Q .normal a' w')→qo0 (qb9 env) env.P ops Q n (qdE ops.size m) a w
 |0,m,σ,a,w,im,ρ,h,hv,hn=>by
  unfold qof at hv
  split at hv
  ·
   rename_i hr
   exact⟨by rw[qiY,hr],hn _ _ _ _ _ (quO hv) h.drop⟩
  ·
   exact hv.elim
 |n+1,m,σ,a,w,im,ρ,h,hv,hn=>by
  unfold qof at hv
  split at hv
  ·
   rename_i hr
   exact⟨fun _=>hn _ _ _ _ _ (quO hv) h.drop,by rw[qiY,hr];simp⟩
  ·
   rename_i rs hrs
   have hsel':∀ (j:Nat) (o:Oper) cs b,ops[j]? = some o→o.op≠.select cs b:=fun j o cs b hj=>q2Z hsel j o cs b (by simpa using hj)
   split at hv
   ·
    rename_i i o hp
    obtain⟨h1,h2,h3,h4⟩:=q3b hp
    obtain⟨v,σ',hy,hk,h'⟩:=q6K (ops:=ops) h h3 hv
    have hio:ops[i]? = some o:=by simpa using h2
    have hk:=qau (k:=fun m=>qof env ops id n m σ' k) hk
    have hset:(qdE ops.size m).setIfInBounds i true=qdE ops.size (m ||| 2 ^ i):=q6Q _ _ _
    refine qxi (D:=fun j=>Nat.testBit (depM i ops.toList 0 0) j) (fun j oj hj hD=>?_) hio hsel' hQ n _ a w (fun j hD hji=>?_) (fun j oj hj hji hun hno=>?_) (by rw[qiY];exact h1) hy ?_
    ·
     rcases q0D ops.toList 0 0 j oj (by simpa using hj) (by rw[Nat.zero_add];exact hD) with c|⟨e,c1,c2,c3⟩
     ·
      simp at c
     ·
      exact⟨e,c1,c2,c3⟩
    ·
     rw[qiX]
     split
     ·
      rename_i hlt
      exact freeM_un h4 j hlt hji hD
     ·
      rfl
    ·
     exact freeM_ok h4 j oj hj hji (by rw[qiX] at hun;split at hun<;>first|exact hun|cases hun) hno
    ·
     rw[hset]
     exact qhW hΓ hsel hQ n _ h' hk hn
   ·
    refine⟨fun h0=>?_,fun i hi=>?_⟩
    ·
     exfalso
     rw[qiY] at h0
     exact hrs h0
    ·
     rw[qiY] at hi
     obtain⟨o,ho,hv⟩:=q3a hv i hi
     have hio:ops[i]? = some o:=by simpa using ho
     have:=qhV (ops:=ops) (Q:=Q) (next:=fun a' w'=>(qoz (qb9 env) ops i=true→Agr w w')∧qo0 (qb9 env) env.P ops Q n ((qdE ops.size m).setIfInBounds i true) a' w') hΓ h hv
      fun σ' a' w' im' ρ' hk h' hA=>⟨fun e=>hA (by unfold qoz at e;rw[hio] at e;exact e),by
       rw[q6Q]
       exact qhW hΓ hsel hQ n _ h' (qau (k:=fun m=>qof env ops id n m σ' k) hk) hn⟩
     unfold wpOp
     rw[hio]
     dsimp only
     split
     ·
      rename_i hw
      rw[if_pos hw] at this
      exact .inl this
     ·
      rename_i hw
      rw[if_neg hw] at this
      exact this
end
end Go.Eng
