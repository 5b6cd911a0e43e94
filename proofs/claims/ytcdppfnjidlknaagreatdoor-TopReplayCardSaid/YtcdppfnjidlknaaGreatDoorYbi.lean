/- Whatever the site, the device and the inputs, TopReplay answers true and leaves its arguments as they were; this rests on the tables of math/bits being laid as the program lays them. -/
import Derived.Test.YtcdppfnjidlknaaGreatDoorYbh
import Derived.Test.YtcdppfnjidlknaaGreatDoorTie
import Derived.Test.YtcdppfnjidlknaaGreatDoorCards
import Derived.ProofKit
import Derived.LaidMore
import Derived.OpenShut
import Derived.Stop.Joined
import Derived.Lib.LaidTab
import Derived.SevenTiedAt
set_option linter.unusedVariables false
set_option linter.unusedSimpArgs false
namespace Go.Eng
open Go
section
variable {H : Type} {P : Program}
theorem wall {α:Type}{t:TypeId}{Z:DataW H→α→Prop}{Q:α→Prop}(hq:∀ d x,Z d x→(∀ n∈DataW.weights P t d,n≤reachBytes)→Q x):∀ (el:List (DataW H)) (xs:List α),ZAll Z el xs→(∀ n∈DataW.weightsAll P t el,n≤reachBytes)→∀ x∈xs,Q x
 | [],[],_,_,x,hx=>by simp at hx
 | [],_::_,h,_,_,_=>h.elim
 |_::_,[],h,_,_,_=>h.elim
 |d::el,y::xs,h,hn,x,hx=>by
  rcases List.mem_cons.1 hx with rfl|hx
  ·
   exact hq d x h.1 fun n hm=>hn n (by simp only[DataW.weightsAll,List.mem_append];exact .inl hm)
  ·
   exact wall hq el xs h.2 (fun n hm=>hn n (by simp only[DataW.weightsAll,List.mem_append];exact .inr hm)) x hx
theorem qrk {α:Type}{t e:TypeId}{Z:DataW H→α→Prop}{Q:α→Prop}{d:DataW H}{xs:List α}(ht:P.underlying t=some (.slice e))(hq:∀ d x,Z d x→(∀ n∈DataW.weights P e d,n≤reachBytes)→Q x)(h:DSz Z d xs)(hn:∀ n∈DataW.weights P t d,n≤reachBytes):xs.length*P.bytesOf e≤140737488355328∧∀ x∈xs,Q x:=by
 rcases h with rfl|⟨el,sp,rfl,hz⟩
 ·
  exact⟨by simp,fun x hx=>by simp at hx⟩
 ·
  have l:=quY el xs hz
  have w:=hn ((el.length+sp.length)*P.bytesOf e) (by simp[DataW.weights,ht])
  have r:reachBytes≤140737488355328:=by decide
  have:xs.length*P.bytesOf e≤(el.length+sp.length)*P.bytesOf e:=Nat.mul_le_mul_right _ (by omega)
  exact⟨by omega,wall hq el xs hz fun n hm=>hn n (by simp[DataW.weights,ht,hm])⟩
theorem q87 {α:Type}{Z:DataW H→α→Prop}{ts:List TypeId}{ds:List (DataW H)}(h:(DataW.weightsEach P ts ds).all (·≤reachBytes)=true){j b:Nat}{t' t:TypeId}{d:DataW H}{xs:List α}(hj:ts[j]? = some t')(hd:ds[j]? = some d)(hu:P.underlying t'=some (.slice t))(hb:P.bytesOf t=b)(z:DSz Z d xs):xs.length*b≤140737488355328:=by
 subst hb
 exact(qrk (Q:=fun _=>True) hu (fun _ _ _ _=>trivial) z fun n hn=>by
  have:=List.all_eq_true.1 h n (DataW.weights_mem_each hj hd n hn)
  simpa using this).1
theorem q0j {n b:Nat}(h:n*b≤140737488355328)(hb:0<b):n≤140737488355328:=Nat.le_trans (Nat.le_mul_of_pos_right _ hb) h
theorem reach_mm {ts:List TypeId} {ds:List (DataW H)} (h:(DataW.weightsEach P ts ds).all (·≤reachBytes)=true) {j:Nat} {t' t e t1 t2 t3 b:TypeId} {fs:Array Field} {d:DataW H} {xs:List (List Msg)} (hj:ts[j]? = some t') (hd:ds[j]? = some d) (hu:P.underlying t'=some (.slice t)) (hu2:P.underlying t=some (.slice e)) (hs:P.underlying e=some (.struct fs)) (hf:fs.toList.map (·.type)=[t1,t2,t3]) (h3:P.underlying t3=some (.slice b)) (b1:0<P.bytesOf t) (b2:0<P.bytesOf e) (b3:0<P.bytesOf b) (z:DSz (DSz ZMsg) d xs) :
  xs.length≤140737488355328∧∀ x∈xs,x.length≤140737488355328∧∀ y∈x,y.body.length≤140737488355328:=by
 have q:=qrk (Q:=fun x:List Msg=>x.length≤140737488355328∧∀ y∈x,y.body.length≤140737488355328) hu (fun d x hx hn=>by
  have:=qrk (Q:=fun y:Msg=>y.body.length≤140737488355328) hu2 (fun d y hy hn=>by
   obtain⟨d0,d1,d2,rfl,z2⟩:=hy
   exact q2F z2 h3 b3 fun n hm=>hn n (by simp only[DataW.weights,hs,hf,DataW.weightsEach,List.mem_append];exact .inr (.inr (.inl hm)))) hx hn
  exact⟨q0j this.1 b2,this.2⟩) z fun n hn=>by
   have:=List.all_eq_true.1 h n (DataW.weights_mem_each hj hd n hn)
   simpa using this
 exact⟨q0j q.1 b1,q.2⟩
end
end Go.Eng
namespace Go.Proofs.YtcdppfnjidlknaaGreatDoor
open Go Go.Eng Go.ChangeShapes Go.WideShapes Go.ChangeAt Go.RowKit
abbrev q0H:List (String×DataW Unit):=[("math/bits.deBruijn32tab",Rows.laid_math_bits_deBruijn32tab),("math/bits.deBruijn64tab",Rows.laid_math_bits_deBruijn64tab)]
def tabZ:List Int:=Lib.deBruijn32tab.map fun n:Nat=>(n:Int)
def tabY:List Int:=Lib.deBruijn64tab.map fun n:Nat=>(n:Int)
theorem gT:Tryz.prog.globalNamed "math/bits.deBruijn32tab" = some 0:=by kernel_rfl
theorem tT:(Tryz.prog.globals[0]?).map (·.type)=some 292:=by kernel_rfl
theorem gY:Tryz.prog.globalNamed "math/bits.deBruijn64tab" = some 2:=by kernel_rfl
theorem tY:(Tryz.prog.globals[2]?).map (·.type)=some 308:=by kernel_rfl
theorem lay_is:Rows.laid_math_bits_deBruijn32tab (H:=Unit)=Lib.tabData .u8 tabZ:=rfl
theorem lay_isY:Rows.laid_math_bits_deBruijn64tab (H:=Unit)=Lib.tabData .u8 tabY:=rfl
theorem qva {P:Program} {W:World} {x:String×DataW Unit} {name:String} {k:IntKind} {zs:List Int} {rest:List (String×DataW Unit)} {g:Nat} {t e:TypeId} {n:Nat}
  (hg:P.globalNamed name=some g) (hty:(P.globals[g]?).map (·.type)=some t) (ht:P.underlying t=some (.array n e)) (he:P.underlying e=some (.int k)) (hce:P.cellsOf e=1) (hct:P.cellsOf t=n)
  (h:laidMet P (x::(name,Lib.tabData k zs)::rest) W):Lib.TabIs P W name k zs:=by
 obtain⟨ps,⟨_,_,_,_,_,_,_,_,_,_,⟨g',t',cs,fuel,p,q,hg',ht',hvar,hd,_,_⟩,_⟩,_⟩:=h
 obtain rfl:=Option.some.inj (hg.symm.trans hg')
 obtain rfl:=Option.some.inj (hty.symm.trans ht')
 unfold Lib.TabIs
 rw[hvar,← Lib.cells_of_tab ht he hce hct hd]
theorem qo8 {W:World}(h:laidMetH Tryz.prog q0H W):Lib.TabIs Tryz.prog W "math/bits.deBruijn32tab" .u8 tabZ∧Lib.TabIs Tryz.prog W "math/bits.deBruijn64tab" .u8 tabY:=by
 rw[MakeChecks.laidMetH_plain _ _ _ (by kernel_rfl)] at h
 unfold q0H at h
 rw[lay_is,lay_isY] at h
 exact⟨Lib.tabIs_of_head (g:=0) (t:=292) (e:=5) (n:=32) gT tT Tryz.underlying292 Tryz.underlying5 (by kernel_rfl) (by kernel_rfl) h,qva (g:=2) (t:=308) (e:=5) (n:=64) gY tY Tryz.underlying308 Tryz.underlying5 (by kernel_rfl) (by kernel_rfl) h⟩
theorem kt_of {W:World}{b n:Nat}{name:String}{tab:List Nat}(hg:Tryz.prog.globalNamed name=some b)(hn:tab.length=n)(h0:0<n)(ht:Lib.TabIs Tryz.prog W name .u8 (tab.map fun n:Nat=>(n:Int))):Kt b n tab W (· < W.heap.size):=by
 have hc:∀ j,j<n→W.cell? ⟨b,j,none⟩=some (.int .u8 ((tab.getD j 0:Nat):Int)):=fun j hj=>by
  have:=ht.cell hg j (by simpa using hn▸hj)
  rw[this]
  have e:(tab.map fun n:Nat=>(n:Int)).getD j 0=((tab.getD j 0:Nat):Int):=by
   rw[List.getD_eq_getElem?_getD,List.getD_eq_getElem?_getD,List.getElem?_map]
   cases tab[j]?<;>rfl
  rw[e]
 refine⟨?_,hc⟩
 have h1:=hc 0 h0
 rcases Nat.lt_or_ge b W.heap.size with h|h
 ·
  exact h
 ·
  exfalso
  unfold World.cell? at h1
  rw[show W.heap[(⟨b,0,none⟩:Addr).block]? = none from Array.getElem?_eq_none h] at h1
  simp at h1
theorem q4T {W:World}(h:laidMetH Tryz.prog q0H W):Kc W (· < W.heap.size) :=
 ⟨kt_of gT rfl (by decide) (qo8 h).1,kt_of gY rfl (by decide) (qo8 h).2⟩
theorem door_met (os:Os)(args:Array Value):laidMetH Tryz.prog q0H ((World.doorLaid Tryz.prog 400 os).forCall (fun _ _=>0) ⟨#[],args,[]⟩).memory :=
 laidMetH_of_parts3 (fuel:=8) (laidMet_of_run' 8 (by kernel_rfl) (by kernel_rfl)) (by kernel_rfl) (by kernel_rfl)
end Go.Proofs.YtcdppfnjidlknaaGreatDoor
namespace Go.Proofs.YtcdppfnjidlknaaGreatDoor
open Go.ChangeShapes Go.WideShapes Go.ChangeAt Go.RowKit Go.Eng
theorem quZ {s:SiteT}{d:List UInt8}{l:List Inp}{x0:List (List Msg)}{x1:List UInt8}(hs:SWf s)(hl:∀ x∈l,InB x)(hn:l.length*88≤140737488355328)(hm:MOk x0):qeY.to.run [.agg (enc 25 s),.agg [.sl 0 d],.sl 24 l,.sl 11 x0,.sl 0 x1] [] (fun r _ _=>r=.bool true):=by
 obtain⟨r,h1,rfl⟩:=qrO (d:=d) (m:=x0) (again:=x1) hs hl hn hm
 have e:qeY.run DOps.std AV [.agg (enc 25 s),.agg [.sl 0 d],.sl 24 l,.sl 11 x0,.sl 0 x1] [] (fun x _ _=>some x)=qux (qga s d l x0 x1) fun b=>some (.bool b):=by kernel_rfl
 exact⟨AV,fun x _ _=>some x,.bool true,by rw[e,h1];rfl,fun x _ _ h=>(Option.some.inj h)⟩
theorem ownQ9:ownKnob Tryz.prog.godebug=none:=by kernel_rfl
theorem qxn:laidOutB Tryz.prog=true:=by kernel_rfl
set_option maxHeartbeats 800000 in
set_option maxRecDepth 100000 in
theorem qo6 (os:Os) (started:os.Started) (H:Type) (enc:TypeId×Value→H) :
  ReturnsInHanded {} Tryz.checked os 9 .any (fun w args=>(Rows.topReplaySpec.pre enc Tryz.prog Tryz.f9 [] false w args∧laidMetH Tryz.prog q0H w)∧sizedMet enc Tryz.prog Tryz.f9 (OpenSpec.ofChange Rows.topReplaySpec) false w args) (Rows.topReplaySpec.post enc Tryz.prog Tryz.f9 false true false false):=by
 refine returnsInHanded_of_change_and (C:=Tryz.checked) (X:=fun w _=>laidMetH Tryz.prog q0H w) (fun _ _ _ hh h=>h.of_heap hh) ownQ9 started (by kernel_rfl) Tryz.func9
  (ChangeSpec.witness_shaped (enc:=enc) (C:=Tryz.checked) (os:=os) (X:=fun w _=>laidMetH Tryz.prog q0H w) false (World.doorLaid Tryz.prog 400 os) #[.agg #[.int .i64 0,.slice none 0 0,.slice none 0 0,.slice none 0 0,.slice none 0 0,.slice none 0 0,.int .i64 0,.int .i64 0,.int .i64 0,.int .i64 0,.int .i64 0,.slice none 0 0],.agg #[.slice none 0 0],.slice none 0 0,.slice none 0 0,.slice none 0 0] 8 rfl (World.shaped_of_RefB (by kernel_rfl) (by kernel_rfl)) (by kernel_rfl) (by kernel_rfl) (by kernel_rfl) (door_met os _)) ?_
 intro W base args ds gs before hval0 hW hcnd hsz hL _
 have hval:∀ (j:Nat) t v,Tryz.f9.params[j]? = some t→args[j]? = some v→Value.okWide Tryz.prog W .any base t v:=hval0
 have hW':=hW
 obtain⟨p,q,hA0,hV,rfl,hfz,hnd⟩:=hW
 have hA:DataW.TrodAll enc Tryz.prog W 0 (fun _=>true) true Tryz.f9.params.toList args.toList ds p:=hA0
 rw[Tryz.params9] at hA hval
 obtain⟨v0,vs0,d0,ds0,p0,q0,hargs,rfl,rfl,h0,r0⟩:=trodAll_cons hA
 obtain⟨v1,vs1,d1,ds1,p1,q1,rfl,rfl,rfl,h1,r1⟩:=trodAll_cons r0
 obtain⟨v2,vs2,d2,ds2,p2,q2,rfl,rfl,rfl,h2,r2⟩:=trodAll_cons r1
 obtain⟨v3,vs3,d3,ds3,p3,q3,rfl,rfl,rfl,h3,r3⟩:=trodAll_cons r2
 obtain⟨v4,vs4,d4,ds4,p4,q4,rfl,rfl,rfl,h4,r4⟩:=trodAll_cons r3
 obtain⟨rfl,rfl,rfl⟩:=trodAll_nil r4
 obtain rfl:args=#[v0,v1,v2,v3,v4]:=by cases args;simp_all
 obtain⟨rfl,rfl⟩:=trodVars_none hV
 have k0:=h0
 have lt0:∀ x∈p0,x.block<W.heap.size:=by obtain⟨m,hm⟩:=k0;exact DataW.trod_lt m _ _ _ hm
 obtain⟨fuel0,hf0⟩:=h0
 obtain⟨cs0,rfl,hsz0,hcs0⟩:=qxh Tryz.underlying29 (by kernel_rfl) (by kernel_rfl) (hval 0 29 v0 rfl rfl) hf0
 obtain⟨c0_0,c0_1,c0_2,c0_3,c0_4,c0_5,c0_6,c0_7,c0_8,c0_9,c0_10,c0_11,rfl⟩:∃ b0 b1 b2 b3 b4 b5 b6 b7 b8 b9 b10 b11,cs0=#[b0,b1,b2,b3,b4,b5,b6,b7,b8,b9,b10,b11]:=by
  exact arr12 hsz0
 obtain⟨n0_0,y0_0,hy0_0⟩:=hcs0 0 _ _ rfl rfl
 obtain⟨a0_0,e0_0,-,w0_0⟩:=DataW.trod_int Tryz.underlying3 hy0_0
 obtain rfl:c0_0=.int .i64 a0_0:=by simpa using e0_0
 obtain⟨n0_1,y0_1,hy0_1⟩:=hcs0 1 _ _ rfl rfl
 obtain⟨u0_1,xs0_1,e0_1,o0_1,w0_1,z0_1⟩:=qa9 (c:=17) (by decide) Tryz.underlying22 (by kernel_rfl) (q81 Tryz.underlying87 (by kernel_rfl) rfl Tryz.underlying5 Tryz.underlying3 Tryz.underlying3 (by kernel_rfl) (by kernel_rfl) (by kernel_rfl)) hy0_1
 obtain rfl:c0_1=u0_1:=by simpa using e0_1
 obtain⟨n0_2,y0_2,hy0_2⟩:=hcs0 2 _ _ rfl rfl
 obtain⟨u0_2,xs0_2,e0_2,o0_2,w0_2,-⟩:=qa9 (c:=2) (by decide) Tryz.underlying23 (by kernel_rfl) (q6U Tryz.underlying41) hy0_2
 obtain rfl:c0_2=u0_2:=by simpa using e0_2
 obtain⟨n0_3,y0_3,hy0_3⟩:=hcs0 3 _ _ rfl rfl
 obtain⟨u0_3,xs0_3,e0_3,o0_3,w0_3,z0_3⟩:=qa9 (c:=7) (by decide) Tryz.underlying24 (by kernel_rfl) (q4Q Tryz.underlying66 Tryz.underlying3 (by kernel_rfl)) hy0_3
 obtain rfl:c0_3=u0_3:=by simpa using e0_3
 obtain⟨n0_4,y0_4,hy0_4⟩:=hcs0 4 _ _ rfl rfl
 obtain⟨u0_4,xs0_4,e0_4,o0_4,w0_4,z0_4⟩:=qa9 (c:=18) (by decide) Tryz.underlying25 (by kernel_rfl) (q82 Tryz.underlying99 (by kernel_rfl) rfl Tryz.underlying41 Tryz.underlying3 Tryz.underlying3 Tryz.underlying3 Tryz.underlying4 (by kernel_rfl) (by kernel_rfl) (by kernel_rfl) (by kernel_rfl) (by kernel_rfl)) hy0_4
 obtain rfl:c0_4=u0_4:=by simpa using e0_4
 obtain⟨n0_5,y0_5,hy0_5⟩:=hcs0 5 _ _ rfl rfl
 obtain⟨u0_5,xs0_5,e0_5,o0_5,w0_5,z0_5⟩:=qa9 (c:=19) (by decide) Tryz.underlying26 (by kernel_rfl) (q83 Tryz.underlying186 (by kernel_rfl) rfl Tryz.underlying3 Tryz.underlying3 Tryz.underlying3 Tryz.underlying3 (by kernel_rfl) (by kernel_rfl) (by kernel_rfl) (by kernel_rfl)) hy0_5
 obtain rfl:c0_5=u0_5:=by simpa using e0_5
 obtain⟨n0_6,y0_6,hy0_6⟩:=hcs0 6 _ _ rfl rfl
 obtain⟨a0_6,e0_6,-,w0_6⟩:=DataW.trod_int Tryz.underlying3 hy0_6
 obtain rfl:c0_6=.int .i64 a0_6:=by simpa using e0_6
 obtain⟨n0_7,y0_7,hy0_7⟩:=hcs0 7 _ _ rfl rfl
 obtain⟨a0_7,e0_7,-,w0_7⟩:=DataW.trod_int Tryz.underlying3 hy0_7
 obtain rfl:c0_7=.int .i64 a0_7:=by simpa using e0_7
 obtain⟨n0_8,y0_8,hy0_8⟩:=hcs0 8 _ _ rfl rfl
 obtain⟨a0_8,e0_8,-,w0_8⟩:=DataW.trod_int Tryz.underlying3 hy0_8
 obtain rfl:c0_8=.int .i64 a0_8:=by simpa using e0_8
 obtain⟨n0_9,y0_9,hy0_9⟩:=hcs0 9 _ _ rfl rfl
 obtain⟨a0_9,e0_9,-,w0_9⟩:=DataW.trod_int Tryz.underlying3 hy0_9
 obtain rfl:c0_9=.int .i64 a0_9:=by simpa using e0_9
 obtain⟨n0_10,y0_10,hy0_10⟩:=hcs0 10 _ _ rfl rfl
 obtain⟨a0_10,e0_10,-,w0_10⟩:=DataW.trod_int Tryz.underlying3 hy0_10
 obtain rfl:c0_10=.int .i64 a0_10:=by simpa using e0_10
 obtain⟨n0_11,y0_11,hy0_11⟩:=hcs0 11 _ _ rfl rfl
 obtain⟨u0_11,xs0_11,e0_11,o0_11,w0_11,-⟩:=qa9 (c:=10) (by decide) Tryz.underlying27 (by kernel_rfl) (q4S Tryz.underlying68 (by kernel_rfl) rfl Tryz.underlying3 Tryz.underlying3 Tryz.underlying66 Tryz.underlying3 (by kernel_rfl) (by kernel_rfl) (by kernel_rfl) (by kernel_rfl)) hy0_11
 obtain rfl:c0_11=u0_11:=by simpa using e0_11
 have k1:=h1
 have lt1:∀ x∈p1,x.block<W.heap.size:=by obtain⟨m,hm⟩:=k1;exact DataW.trod_lt m _ _ _ hm
 obtain⟨fuel1,hf1⟩:=h1
 obtain⟨cs1,rfl,hsz1,hcs1⟩:=qxh Tryz.underlying32 (by kernel_rfl) (by kernel_rfl) (hval 1 32 v1 rfl rfl) hf1
 obtain⟨c1_0,rfl⟩:∃ b0,cs1=#[b0]:=by
  exact arr1 hsz1
 obtain⟨n1_0,y1_0,hy1_0⟩:=hcs1 0 _ _ rfl rfl
 obtain⟨u1_0,xs1_0,e1_0,o1_0,w1_0,-⟩:=qa9 (c:=0) (by decide) Tryz.underlying30 (by kernel_rfl) (qgr Tryz.underlying5) hy1_0
 obtain rfl:c1_0=u1_0:=by simpa using e1_0
 have k2:=h2
 have lt2:∀ x∈p2,x.block<W.heap.size:=by obtain⟨m,hm⟩:=k2;exact DataW.trod_lt m _ _ _ hm
 obtain⟨xs2,w2,z2⟩:∃ xs:List (ty 24),Rep W (· < W.heap.size) qai v2 (.sl 24 xs)∧DSz ZInp d2 xs:=by
  obtain⟨fuel,hf⟩:=h2
  exact q6W (c:=24) (by decide) Tryz.underlying33 (by kernel_rfl) (q84 Tryz.underlying43 (by kernel_rfl) rfl Tryz.underlying30 Tryz.underlying41 Tryz.underlying30 Tryz.underlying4 Tryz.underlying3 Tryz.underlying3 Tryz.underlying4 Tryz.underlying5 (by kernel_rfl) (by kernel_rfl) (by kernel_rfl) (by kernel_rfl) (by kernel_rfl) (by kernel_rfl) (by kernel_rfl) (by kernel_rfl)) (hval 2 33 v2 rfl rfl) hf
 have k3:=h3
 have lt3:∀ x∈p3,x.block<W.heap.size:=by obtain⟨m,hm⟩:=k3;exact DataW.trod_lt m _ _ _ hm
 obtain⟨xs3,w3,z3⟩:∃ xs:List (ty 11),Rep W (· < W.heap.size) qai v3 (.sl 11 xs)∧DSz (DSz ZMsg) d3 xs:=by
  obtain⟨fuel,hf⟩:=h3
  exact q6W (c:=11) (by decide) Tryz.underlying48 (by kernel_rfl) (q4R Tryz.underlying51 (by kernel_rfl) (q6V Tryz.underlying54 (by kernel_rfl) rfl Tryz.underlying5 Tryz.underlying41 Tryz.underlying30 Tryz.underlying5 (by kernel_rfl) (by kernel_rfl) (by kernel_rfl) (by kernel_rfl))) (hval 3 48 v3 rfl rfl) hf
 have k4:=h4
 have lt4:∀ x∈p4,x.block<W.heap.size:=by obtain⟨m,hm⟩:=k4;exact DataW.trod_lt m _ _ _ hm
 obtain⟨xs4,w4,z4⟩:∃ xs:List (ty 0),Rep W (· < W.heap.size) qai v4 (.sl 0 xs)∧DSz Z0 d4 xs:=by
  obtain⟨fuel,hf⟩:=h4
  exact q6W (c:=0) (by decide) Tryz.underlying30 (by kernel_rfl) (qgr Tryz.underlying5) (hval 4 30 v4 rfl rfl) hf
 clear hA0 hval0
 have hk0_0:kwf .i64 a0_0:=by simpa [Lit.wf,kwf] using w0_0
 have hk0_6:kwf .i64 a0_6:=by simpa [Lit.wf,kwf] using w0_6
 have hk0_7:kwf .i64 a0_7:=by simpa [Lit.wf,kwf] using w0_7
 have hk0_8:kwf .i64 a0_8:=by simpa [Lit.wf,kwf] using w0_8
 have hk0_9:kwf .i64 a0_9:=by simpa [Lit.wf,kwf] using w0_9
 have hk0_10:kwf .i64 a0_10:=by simpa [Lit.wf,kwf] using w0_10
 have hm2:∀ x∈xs2,InB x:=q86 hsz (j:=2) (t':=33) (by rw[Tryz.params9];rfl) rfl Tryz.underlying33 Tryz.underlying43 rfl Tryz.underlying30 Tryz.underlying30 (by decide +kernel) z2
 have hl2:xs2.length*88≤140737488355328:=q87 hsz (j:=2) (by rw[Tryz.params9];rfl) rfl Tryz.underlying33 (by kernel_rfl) z2
 have hm3:MOk xs3:=reach_mm hsz (j:=3) (by rw[Tryz.params9];rfl) rfl Tryz.underlying48 Tryz.underlying51 Tryz.underlying54 rfl Tryz.underlying30 (by decide +kernel) (by decide +kernel) (by decide +kernel) z3
 refine(qrs qqP.out Tryz.call9 (w:=W) (vals:=#[.agg #[.int .i64 a0_0,c0_1,c0_2,c0_3,c0_4,c0_5,.int .i64 a0_6,.int .i64 a0_7,.int .i64 a0_8,.int .i64 a0_9,.int .i64 a0_10,c0_11],.agg #[c1_0],v2,v3,v4]) (args:=[.agg [.int .i64 a0_0,.sl 17 xs0_1,.sl 2 xs0_2,.sl 7 xs0_3,.sl 18 xs0_4,.sl 19 xs0_5,.int .i64 a0_6,.int .i64 a0_7,.int .i64 a0_8,.int .i64 a0_9,.int .i64 a0_10,.sl 10 xs0_11],.agg [.sl 0 xs1_0],.sl 24 xs2,.sl 11 xs3,.sl 0 xs4]) rfl (fun j v hj=>?_) (quZ (s:=⟨a0_0,xs0_1,xs0_2,xs0_3,xs0_4,xs0_5,a0_6,a0_7,a0_8,a0_9,a0_10,xs0_11⟩) (x0:=xs3) (x1:=xs4) (dsz_all (Q:=fun p:Phs=>0≤p.groupsf∧p.groupsf<4294967296) (fun _ _ h=>h) z0_4) hm2 hl2 hm3) (hK:=q4T hL)).mono fun e W' ⟨he,bel⟩=>?_
 ·
  rcases j with _|_|_|_|_|j
  ·
   simp at hj;subst hj;refine .agg rfl (fun j v h=>?_) (fun j v h=>?_)<;>rcases j with _|_|_|_|_|_|_|_|_|_|_|_|j<;>simp at h<;>subst h<;>first|rfl|exact .bool|exact .int (by assumption)|assumption
  ·
   simp at hj;subst hj;refine .agg rfl (fun j v h=>?_) (fun j v h=>?_)<;>rcases j with _|j<;>simp at h<;>subst h<;>first|rfl|exact .bool|exact .int (by assumption)|assumption
  ·
   simp at hj;subst hj;exact w2
  ·
   simp at hj;subst hj;exact w3
  ·
   simp at hj;subst hj;exact w4
  ·
   simp at hj
 subst he
 exact⟨_,rfl,_,_,_,[],_,[],hW',trodAll_mk1 (shut_bool Tryz.underlying4 _),(trodAll_cons_mk (Below.trod qxn (by kernel_rfl) (of_decide_eq_true (by kernel_rfl)) k0 bel lt0) (trodAll_cons_mk (Below.trod qxn (by kernel_rfl) (of_decide_eq_true (by kernel_rfl)) k1 bel lt1) (trodAll_cons_mk (Below.trod qxn (by kernel_rfl) (of_decide_eq_true (by kernel_rfl)) k2 bel lt2) (trodAll_cons_mk (Below.trod qxn (by kernel_rfl) (of_decide_eq_true (by kernel_rfl)) k3 bel lt3) (trodAll_cons_mk (Below.trod qxn (by kernel_rfl) (of_decide_eq_true (by kernel_rfl)) k4 bel lt4) trodAll_mk0))))),rfl,bel.frame _,fun h=>by cases h⟩
theorem qo7:Rows.TopReplaySaid :=
 OpenClaim.holds_of_wide 9 Tryz.f9 rfl rfl rfl rfl rfl rfl rfl ⟨rfl,rfl,rfl,rfl,rfl⟩ rfl rfl rfl rfl rfl (by kernel_rfl) Tryz.func9 (by kernel_rfl)
  (of_decide_eq_true (by kernel_rfl)) (by unfold Func.isWrapper;first|(rw[if_pos (by decide +kernel)];kernel_rfl)|(rw[if_neg (by decide +kernel)];exact⟨rfl,rfl⟩))
  (fun os started H enc _=>qo6 os started H enc)
theorem topReplay_said:Rows.TopReplayCardSaid :=
 Claim7.holds_tied_plain_at .later [] [.data,.data] true (true, "b3a3731fdcf22dd8478f5c004f5c36384d3de06c1975ca7a561c7ce5f086469e") false
  qo7 (fun _ h=>by cases h) (by kernel_rfl) (fun _ h=>by cases h) topReplay_row_tie rfl ⟨rfl,rfl⟩ (by kernel_rfl) rfl
  (fun f fn hf hfn=>by
   obtain rfl:f=9:=Option.some.inj ((show Tryz.prog.funcNamed "stopline/stoplinetop.TopReplay" = some 9 by kernel_rfl).symm.trans hf) |>.symm
   obtain rfl:fn=Tryz.f9:=(Option.some.inj (Tryz.func9.symm.trans hfn)).symm
   exact⟨by kernel_rfl,fun j t ht=>by
    rw[Tryz.params9] at ht
    have hm:t∈[29,32,33,48,30]:=by simpa using Array.mem_of_getElem? ht
    have hall:([29,32,33,48,30].all fun u=>!Tryz.prog.wantsStandIn u)=true:=by kernel_rfl
    exact(show Tryz.prog.wantsStandIn t=false by simpa using List.all_eq_true.1 hall t hm)⟩)
  (by kernel_rfl)
#print axioms topReplay_said
end Go.Proofs.YtcdppfnjidlknaaGreatDoor
