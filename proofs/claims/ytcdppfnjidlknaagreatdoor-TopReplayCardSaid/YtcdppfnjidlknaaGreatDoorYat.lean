import Derived.Test.YtcdppfnjidlknaaGreatDoorYas
set_option linter.unusedVariables false
set_option linter.unusedSimpArgs false
namespace Go.Proofs.YtcdppfnjidlknaaGreatDoor
open Go Go.RowKit Go.Shelf Go.Proofs
attribute [local go_sem] Oper.semAt_some cs_off cs_blk cs_twice
theorem five (w:World) (o0 o1 o2 o3 o4:Obj) (W:World) (h:((((w.alloc o0).alloc o1).alloc o2).alloc o3).alloc o4=W) :
  Below w.heap.size w W∧W.heap.size=w.heap.size+5∧W.heap[w.heap.size+1]? = some o1∧W.heap[w.heap.size+2]? = some o2∧W.heap[w.heap.size+3]? = some o3∧W.heap[w.heap.size+4]? = some o4:=by
 have hp:W.heap=((((w.heap.push o0).push o1).push o2).push o3).push o4:=by rw[← h];rfl
 refine⟨?_,?_⟩
 ·
  rw[← h];exact(((((Below.refl _ w).alloc (Nat.le_refl _) _).alloc (by simp) _).alloc (by simp;omega) _).alloc (by simp;omega) _).alloc (by simp;omega) _
 rw[hp]
 refine⟨by simp,?_,?_,?_,?_⟩
 all_goals (simp only[Array.getElem?_push,Array.size_push];repeat (first|rfl|rw[if_pos (by omega)]|rw[if_neg (by omega)]|rw[if_pos trivial]))
theorem qcu {W:World}{b:Nat}{v:Value}{e:TypeId}{fz:Nat×Nat}(h:W.heap[b]? = some (.cells #[v] e fz)):W.cell? ⟨b,0,none⟩=some v:=cell_at h 0
structure AtP (w W:World) (m:Nat) (c o:Int) (sv:Value) (pl v2 v3 v4:Int):Prop where
 p1:W.heap[w.heap.size+1]? = some (.cells #[.int .i64 c,.int .i64 o,sv] 68 (0,0))
 r2:W.heap[w.heap.size+1+1]? = some (.cells #[.int .i64 v2] 3 (0,0))
 r3:W.heap[w.heap.size+1+1+1]? = some (.cells #[.int .i64 v3] 3 (0,0))
 r4:W.heap[w.heap.size+1+1+1+1]? = some (.cells #[.int .i64 v4] 37 (0,0))
 pc:W.heap[m]? = some (.cells #[.int .i64 pl] 3 (0,0))
 b:Below w.heap.size w W
theorem AtP.drew {w W:World}{m:Nat}{c o pl v2 v3 v4:Int}{sv:Value}(h:AtP w W m c o sv pl v2 v3 v4):AtP w W.drew m c o sv pl v2 v3 v4:=⟨h.p1,h.r2,h.r3,h.r4,h.pc,h.b.drew⟩
theorem AtP.own {w W W':World}{m:Nat}{c o pl v2 v3 v4:Int}{sv:Value}{row:Option Nat}(h:AtP w W m c o sv pl v2 v3 v4)(g:W.grownBy W' row)(hr:∀ r,row=some r→w.heap.size≤r∧∃ o:Obj,W.heap[r]? = some o∧o.isCells=false):AtP w W' m c o sv pl v2 v3 v4:=by
 have k:∀ (j:Nat) (cs:Array Value) (e:TypeId),W.heap[j]? = some (.cells cs e (0,0))→W'.heap[j]? = some (.cells cs e (0,0)):=fun j cs e ho =>
  (g.block j (Array.getElem?_eq_some_iff.1 ho).1 (fun e=>by obtain⟨o',h1,h2⟩:=(hr j e.symm).2;rw[ho] at h1;cases h1;cases h2)).trans ho
 exact⟨k _ _ _ h.p1,k _ _ _ h.r2,k _ _ _ h.r3,k _ _ _ h.r4,k _ _ _ h.pc,h.b.grown g h.b.size (fun j e=>(hr j e).1)⟩
def AtNo {zs:List Int}(pl:Int)(pre:List (Pt zs)):Prop:=∀ x∈pre,¬ pl<x.1.2
def AtRet {zs:List Int}(w W:World)(m:Nat)(c o:Int)(sv:Value)(pl:Int)(pre:List (Pt zs)):Prop:=∃ (x:Pt zs) (pre':List (Pt zs)),pre=pre'++[x]∧(∀ y∈pre',¬ pl<y.1.2)∧pl<x.1.2∧AtP w W m c o sv pl x.1.1 (wrap64 (wrap64 (pl-x.1.2)+zs[x.1.1]'x.2)) 0
theorem qxq {W:World}{b:Nat}{x y:Value}{e:TypeId}(h:W.heap[b]? = some (.cells #[x] e (0,0))):(W.setCell ⟨b,0,none⟩ y).heap[b]? = some (.cells #[y] e (0,0)):=by
 simp[World.setCell,Array.getElem?_modify,h]
theorem qcg {W:World}{b k:Nat}{y:Value}{o:Obj}(n:k≠b)(h:W.heap[k]? = some o):(W.setCell ⟨b,0,none⟩ y).heap[k]? = some o:=(Below.heap_setCell _ _ _ _ n).trans h
theorem AtP.set {w W:World}{m:Nat}{c o pl v2 v3 v4 u2 u3 u4:Int}{sv:Value}(h:AtP w W m c o sv pl v2 v3 v4)(hm:w.heap.size+1+1+1+1<m):AtP w (((W.setCell ⟨w.heap.size+1+1,0,none⟩ (.int .i64 u2)).setCell ⟨w.heap.size+1+1+1,0,none⟩ (.int .i64 u3)).setCell ⟨w.heap.size+1+1+1+1,0,none⟩ (.int .i64 u4)) m c o sv pl u2 u3 u4 :=
 ⟨qcg (by omega) (qcg (by omega) (qcg (by omega) h.p1)),qcg (by omega) (qcg (by omega) (qxq h.r2)),qcg (by omega) (qxq (qcg (by omega) h.r3)),qxq (qcg (by omega) (qcg (by omega) h.r4)),qcg (by omega) (qcg (by omega) (qcg (by omega) h.pc)),((h.b.setCell (p:=⟨w.heap.size+1+1,0,none⟩) (by show _≤w.heap.size+1+1;omega) _).setCell (p:=⟨w.heap.size+1+1+1,0,none⟩) (by show _≤w.heap.size+1+1+1;omega) _).setCell (p:=⟨w.heap.size+1+1+1+1,0,none⟩) (by show _≤w.heap.size+1+1+1+1;omega) _⟩
theorem wI (n:Int):IntKind.i64.wrap n=wrap64 n:=by unfold wrap64;exact IntKind.wrap_i64 n
theorem q0K (pl:Int)(zs:List Int)(hl:zs.length*8≤140737488351232):∀ (k:Nat),k≤zs.length→(∀ j,j<k→¬ pl<endS zs (j+1))→qaC pl zs 0 0=qaC pl (zs.drop k) k (endS zs k)
 |0,_,_=>by simp[endS]
 |k+1,h,hj=>by
  rw[q0K pl zs hl k (by omega) (fun j hj'=>hj j (by omega)),List.drop_eq_getElem_cons (show k<zs.length by omega),qaC]
  have e:endS zs (k+1)=wrap64 (endS zs k+zs[k]):=by rw[qoB zs (by omega),List.getElem?_eq_getElem (show k<zs.length by omega)];rfl
  have:=hj k (by omega)
  rw[wI (endS zs k+zs[k]),← e,show decide (pl<endS zs (k+1))=false by simpa using this,cond_false,wI ((k:Int)+1),show wrap64 ((k:Int)+1)=((k+1:Nat):Int) from by unfold wrap64;omega]
theorem q7d (pl:Int)(zs:List Int)(hl:zs.length*8≤140737488351232)(h:∀ j,j<zs.length→¬ pl<endS zs (j+1)):qaC pl zs 0 0=(0,0,170):=by
 rw[q0K pl zs hl zs.length (Nat.le_refl _) h,List.drop_length];rfl
theorem scan_at (pl:Int)(zs:List Int)(hl:zs.length*8≤140737488351232)(k:Nat)(hk:k<zs.length)(h:∀ j,j<k→¬ pl<endS zs (j+1))(g:pl<endS zs (k+1)):qaC pl zs 0 0=((k:Int),wrap64 (wrap64 (pl-endS zs (k+1))+zs[k]),0):=by
 rw[q0K pl zs hl k (by omega) h,List.drop_eq_getElem_cons hk,qaC]
 have e:endS zs (k+1)=wrap64 (endS zs k+zs[k]):=by rw[qoB zs hk,List.getElem?_eq_getElem hk];rfl
 rw[wI (endS zs k+zs[k]),← e,show decide (pl<endS zs (k+1))=true by simpa using g,cond_true,wI,wI]
theorem ex146 {w w':World} {e0 u2 u3 u4:Value} {x2 x3 x4:Value} (q2:w'.heap[w.heap.size+1+1]? = some (.cells #[x2] 3 (0,0))) (q3:w'.heap[w.heap.size+1+1+1]? = some (.cells #[x3] 3 (0,0))) (q4:w'.heap[w.heap.size+1+1+1+1]? = some (.cells #[x4] 37 (0,0))) (bw:Below w.heap.size w w') :
  ((((w'.setCell ⟨w.heap.size+1+1+1+1,0,none⟩ e0).setCell ⟨w.heap.size+1+1,0,none⟩ u2).setCell ⟨w.heap.size+1+1+1,0,none⟩ u3).setCell ⟨w.heap.size+1+1+1+1,0,none⟩ u4).cell? ⟨w.heap.size+1+1,0,none⟩=some u2 ∧
  ((((w'.setCell ⟨w.heap.size+1+1+1+1,0,none⟩ e0).setCell ⟨w.heap.size+1+1,0,none⟩ u2).setCell ⟨w.heap.size+1+1+1,0,none⟩ u3).setCell ⟨w.heap.size+1+1+1+1,0,none⟩ u4).cell? ⟨w.heap.size+1+1+1,0,none⟩=some u3 ∧
  ((((w'.setCell ⟨w.heap.size+1+1+1+1,0,none⟩ e0).setCell ⟨w.heap.size+1+1,0,none⟩ u2).setCell ⟨w.heap.size+1+1+1,0,none⟩ u3).setCell ⟨w.heap.size+1+1+1+1,0,none⟩ u4).cell? ⟨w.heap.size+1+1+1+1,0,none⟩=some u4 ∧
  Below w.heap.size w ((((w'.setCell ⟨w.heap.size+1+1+1+1,0,none⟩ e0).setCell ⟨w.heap.size+1+1,0,none⟩ u2).setCell ⟨w.heap.size+1+1+1,0,none⟩ u3).setCell ⟨w.heap.size+1+1+1+1,0,none⟩ u4) :=
 ⟨qcu (qcg (by omega) (qcg (by omega) (qxq (qcg (by omega) q2)))),qcu (qcg (by omega) (qxq (qcg (by omega) (qcg (by omega) q3)))),qcu (qxq (qcg (by omega) (qcg (by omega) (qxq q4)))),(((bw.setCell (p:=⟨w.heap.size+1+1+1+1,0,none⟩) (by show _≤w.heap.size+1+1+1+1;omega) _).setCell (p:=⟨w.heap.size+1+1,0,none⟩) (by show _≤w.heap.size+1+1;omega) _).setCell (p:=⟨w.heap.size+1+1+1,0,none⟩) (by show _≤w.heap.size+1+1+1;omega) _).setCell (p:=⟨w.heap.size+1+1+1+1,0,none⟩) (by show _≤w.heap.size+1+1+1+1;omega) _⟩
theorem res146 (T:Array Value) (w:World) (b2 b3 b4:Nat) (x2 x3 x4:Int) (h6:T.getD 6 undef=.pointer (some ⟨b2,0,none⟩)) (h7:T.getD 7 undef=.pointer (some ⟨b3,0,none⟩)) (h8:T.getD 8 undef=.pointer (some ⟨b4,0,none⟩))
  (c0:w.cell? ⟨b2,0,none⟩=some (.int .i64 x2)) (c1:w.cell? ⟨b3,0,none⟩=some (.int .i64 x3)) (c2:w.cell? ⟨b4,0,none⟩=some (.int .i64 x4)):(results Tryz.f146 T).run Tryz.prog w=.ok (.tuple #[.int .i64 x2,.int .i64 x3,.int .i64 x4]) w:=by
 have h:Tryz.f146.results=#[.cell 6 3,.cell 7 3,.cell 8 37]:=rfl
 have l2:(loadVar 3 ⟨b2,0,none⟩).run Tryz.prog w=.ok (.int .i64 x2) w:=by simp[loadVar,go_sem,c0]
 have l3:(loadVar 3 ⟨b3,0,none⟩).run Tryz.prog w=.ok (.int .i64 x3) w:=by simp[loadVar,go_sem,c1]
 have l4:(loadVar 37 ⟨b4,0,none⟩).run Tryz.prog w=.ok (.int .i64 x4) w:=by simp[loadVar,go_sem,c2]
 have g6:T[6]?.getD undef=.pointer (some ⟨b2,0,none⟩):=by simpa using h6
 have g7:T[7]?.getD undef=.pointer (some ⟨b3,0,none⟩):=by simpa using h7
 have g8:T[8]?.getD undef=.pointer (some ⟨b4,0,none⟩):=by simpa using h8
 simp only[results,h]
 simp[Result.andThen,g6,g7,g8,asAddr,l2,l3,l4]
theorem fin146 {F:Fence} {n D m:Nat} {T:Array Value} {w W:World} {c o pl x2 x3 x4:Int} {sv:Value} {R:Ending→World→Prop} (hA:AtP w W m c o sv pl x2 x3 x4) (h6:T.getD 6 undef=.pointer (some ⟨w.heap.size+1+1,0,none⟩)) (h7:T.getD 7 undef=.pointer (some ⟨w.heap.size+1+1+1,0,none⟩)) (h8:T.getD 8 undef=.pointer (some ⟨w.heap.size+1+1+1+1,0,none⟩))
  (hD:W.heap[D]? = some (.deferred (some []))) (hR:Below w.heap.size w (W.putObj D (.deferred none))→R (.returned (.tuple #[.int .i64 x2,.int .i64 x3,.int .i64 x4])) (W.putObj D (.deferred none))) (hDw:w.heap.size≤D):bodyPostM F n Tryz.prog Tryz.f146 R Exit.ret {tmps:=T,defers:=[{target:=Target.collected D,args:=#[]}]} W:=by
 have hB:=hA.own (grownBy_putObj' W D (.deferred none)) (fun r e=>by cases e;exact⟨hDw,_,hD,rfl⟩)
 exact⟨by simp,.inl ⟨_,_,rfl,run_takeDeferred hD,_,res146 T _ _ _ _ x2 x3 x4 h6 h7 h8 (qcu hB.r2) (qcu hB.r3) (qcu hB.r4),hR hB.b⟩⟩
theorem qvc {F:Fence} {n b2 b3 b4:Nat} {T:Array Value} {W:World} {x2 x3 x4:Int} {R:Ending→World→Prop} (h6:T.getD 6 undef=.pointer (some ⟨b2,0,none⟩)) (h7:T.getD 7 undef=.pointer (some ⟨b3,0,none⟩)) (h8:T.getD 8 undef=.pointer (some ⟨b4,0,none⟩))
  (c0:W.cell? ⟨b2,0,none⟩=some (.int .i64 x2)) (c1:W.cell? ⟨b3,0,none⟩=some (.int .i64 x3)) (c2:W.cell? ⟨b4,0,none⟩=some (.int .i64 x4)) (hR:R (.returned (.tuple #[.int .i64 x2,.int .i64 x3,.int .i64 x4])) W):bodyPostM F n Tryz.prog Tryz.f146 R Exit.ret {tmps:=T,defers:=[]} W :=
 ⟨_,res146 T _ _ _ _ x2 x3 x4 h6 h7 h8 c0 c1 c2,hR⟩
theorem kf146 (W:World)(m:Nat)(a b c:Addr)(x y z:Value):KeepsFrom m W (((W.drew.setCell a x).setCell b y).setCell c z) :=
 ((((KeepsOthers.drew W).trans (KeepsOthers.setCell _ _ _)).trans (KeepsOthers.setCell _ _ _)).trans (KeepsOthers.setCell _ _ _)).from m
theorem atRet_mk {zs:List Int}{w W:World}{m:Nat}{c o:Int}{sv:Value}{pl:Int}{pre:List (Pt zs)}{x:Pt zs}(hp:AtNo pl pre)(cl:pl<x.1.2)(h:AtP w W m c o sv pl x.1.1 (wrap64 (wrap64 (pl-x.1.2)+zs[x.1.1]'x.2)) 0):AtRet w W m c o sv pl (pre++[x]):=⟨x,pre,rfl,hp,cl,h⟩
set_option maxRecDepth 100000 in
set_option maxHeartbeats 4000000 in
theorem at_in (F:Fence) (n:Nat) (h:F.fn 146) (h1:F.fn 192) (h2:F.fn 193) (h3:F.fn 215) (hro:F.round=none) (hn:3≤n) (y0 y1 y2 y3 y4 y5 y6 y7 y8 y9 y10 y11:Value) (c o tick:Int) (sv:Value) (zs:List Int) (isP:Bool) (er:Int) (w:World)
  (hI:Ints w.heap.size w sv zs) (hreach:zs.length*8≤140737488351232)
  (hS:∀ w',Below w.heap.size w w'→CallsIn F (n-1) Tryz.prog 192 #[.agg #[y0,y1,y2,y3,y4,y5,y6,y7,y8,y9,y10,y11],.agg #[.int .i64 c,.int .i64 o,sv]] w' fun e W'=>e=.returned (.tuple #[.bool isP,.int .i64 er])∧Below w'.heap.size w' W')
  (ra rb re:Int) (hN:qoI (some (isP,er)) ⟨c,o,zs⟩ tick=some (ra,rb,re)) :
  CallsIn F n Tryz.prog 146 #[.agg #[y0,y1,y2,y3,y4,y5,y6,y7,y8,y9,y10,y11],.agg #[.int .i64 c,.int .i64 o,sv],.int .i64 tick] w fun e W'=>e=.returned (.tuple #[.int .i64 ra,.int .i64 rb,.int .i64 re])∧Below w.heap.size w W':=by
 have hn1:1≤n:=by omega
 refine callsIn_of_wp_marks Tryz.func146 rfl h ?_ hro
 simp only[Tryz.ntmps146,List.size_toArray,List.length_cons,List.length_nil,Nat.reduceAdd,Nat.reduceSub,Array.replicate_succ,Array.replicate_zero,List.push_toArray,List.append_toArray,List.nil_append,List.cons_append]
 obtain⟨sa,sl,sc,rfl⟩:∃ a l c,sv=.slice a l c:=by
  rcases hI with ⟨a,rfl,-⟩|⟨b,off,cap,rfl,-⟩
  ·
   exact⟨_,_,_,rfl⟩
  ·
   exact⟨_,_,_,rfl⟩
 gi_wp2_with (gi_at_call 192;trivial)
 obtain⟨b5,z5,k1,k2,k3,k4⟩:=five w (.cells #[y0,y1,y2,y3,y4,y5,y6,y7,y8,y9,y10,y11] 29) (.cells #[.int .i64 c,.int .i64 o,.slice sa sl sc] 68) (.cells #[.int .i64 0] 3) (.cells #[.int .i64 0] 3) (.cells #[.int .i64 0] 37) _ rfl
 refine(hS _ b5).mono ?_
 rintro e w' ⟨rfl,hB'⟩
 have q1:=(hB'.block _ (by omega)).trans k1
 have q2:=(hB'.block _ (by omega)).trans k2
 have q3:=(hB'.block _ (by omega)).trans k3
 have q4:=(hB'.block _ (by omega)).trans k4
 have c10:w'.cell? ⟨w.heap.size+1,0,none⟩=some (.int .i64 c):=cell_at q1 0
 have c11:w'.cell? ⟨w.heap.size+1,1,none⟩=some (.int .i64 o):=cell_at q1 1
 have c12:w'.cell? ⟨w.heap.size+1,2,none⟩=some (.slice sa sl sc):=cell_at q1 2
 have c2:=qcu q2
 have c3:=qcu q3
 have c4:=qcu q4
 have f2:=qaE q2 0
 have f3:=qaE q3 0
 have f4:=qaE q4 0
 have z':w.heap.size+5≤w'.heap.size:=by have:=hB'.size;omega
 have bw:=b5.trans (hB'.mono (by omega))
 clear hB' k1 k2 k3 k4 z5 b5
 by_cases ce:er=0
 ·
  subst ce
  cases isP with
  |false =>
   gi_wp2
   obtain⟨h2',h3',h4',hb'⟩:=ex146 (e0:=.int .i64 0) (u2:=.int .i64 0) (u3:=.int .i64 0) (u4:=.int .i64 170) q2 q3 q4 bw
   have hN':ra=0∧rb=0∧re=170:=by
    unfold qoI at hN
    dsimp only at hN
    rw[show ((0:Int) != 0)=false from rfl] at hN
    simp only[cond_false,Bool.not_false,cond_true,Option.some.injEq,Prod.mk.injEq] at hN
    omega
   obtain⟨rfl,rfl,rfl⟩:=hN'
   exact qvc rfl rfl rfl h2' h3' h4' ⟨rfl,hb'⟩
  |true =>
   by_cases ct:tick<0∨1073741824<tick
   ·
    have hN':ra=0∧rb=0∧re=2:=by
     unfold qoI at hN
     dsimp only at hN
     rw[show ((0:Int) != 0)=false from rfl,show (decide (tick<0)||decide (tick > 1073741824))=true by simp;omega] at hN
     simp only[cond_false,Bool.not_true,cond_true,Option.some.injEq,Prod.mk.injEq] at hN
     omega
    obtain⟨rfl,rfl,rfl⟩:=hN'
    obtain⟨h2',h3',h4',hb'⟩:=ex146 (e0:=.int .i64 0) (u2:=.int .i64 0) (u3:=.int .i64 0) (u4:=.int .i64 2) q2 q3 q4 bw
    rcases ct with ct|ct
    ·
     gi_wp2
     exact qvc rfl rfl rfl h2' h3' h4' ⟨rfl,hb'⟩
    ·
     have ct0:0≤tick:=by omega
     gi_wp2
     exact qvc rfl rfl rfl h2' h3' h4' ⟨rfl,hb'⟩
   ·
    have ct1:0≤tick:=by omega
    have ct2:tick≤1073741824:=by omega
    have hN2:c≠0∧qaC (Int.tmod (wrap64 (wrap64 (tick+c)-o)) c) zs 0 0=(ra,rb,re):=by
     unfold qoI at hN
     dsimp only at hN
     rw[show ((0:Int) != 0)=false from rfl,show (decide (tick<0)||decide (tick > 1073741824))=false by simp;omega] at hN
     simp only[cond_false,Bool.not_true] at hN
     obtain⟨h1,h2⟩:=Eng.req_ok hN
     rw[wI,wI] at h2
     exact⟨of_decide_eq_true h1,Option.some.inj h2⟩
    obtain⟨cz,hSc⟩:=hN2
    have dd:∀ (X:Obj) (j:Nat),((w'.setCell ⟨w.heap.size+1+1+1+1,0,none⟩ (.int .i64 0)).alloc X).cell? ⟨w.heap.size+1,j,none⟩=w'.cell? ⟨w.heap.size+1,j,none⟩:=fun X j=>by
     refine World.cell?_of_block (w:=w') ?_
     exact(Below.heap_alloc _ _ _ (by show w.heap.size+1<_;simp[World.setCell];omega)).trans (Below.heap_setCell _ _ _ _ (by show w.heap.size+1≠w.heap.size+1+1+1+1;omega))
    have d10:=fun X=>(dd X 0).trans c10
    have d11:=fun X=>(dd X 1).trans c11
    have d12:=fun X=>(dd X 2).trans c12
    clear dd
    gi_wp2_with (gi_at_call 193;refine(parts_in F (n-1) h2 hro _ _ _ _ _ _).mono ?_;rintro e w2 ⟨rfl,rfl⟩)
    generalize hpl:(wrap64 (wrap64 (tick+c)-o)).tmod c=pl at hSc ⊢
    generalize hw7:((w'.setCell {block:=w.heap.size+1+1+1+1,off:=0} (Value.int IntKind.i64 0)).alloc (Obj.cells #[Value.int IntKind.i64 pl] 3)).alloc (Obj.cells #[Value.int IntKind.i64 c,Value.int IntKind.i64 o,Value.slice sa sl sc] 68)=w7
    have z7:w7.heap.size=w'.heap.size+2:=by rw[← hw7];simp[World.setCell]
    have sz4:(w'.setCell {block:=w.heap.size+1+1+1+1,off:=0} (Value.int IntKind.i64 0)).heap.size=w'.heap.size:=by simp[World.setCell]
    have a7:AtP w w7 w'.heap.size c o (.slice sa sl sc) pl 0 0 0:=by
     have ol:∀ (k:Nat) (ob:Obj),(w'.setCell {block:=w.heap.size+1+1+1+1,off:=0} (Value.int IntKind.i64 0)).heap[k]? = some ob→w7.heap[k]? = some ob:=fun k ob hk=>by
      have:=(Array.getElem?_eq_some_iff.1 hk).1
      rw[← hw7]
      exact(Below.heap_alloc _ _ _ (by rw[World.size_alloc];omega)).trans ((Below.heap_alloc _ _ _ this).trans hk)
     refine⟨ol _ _ (qcg (by omega) q1),ol _ _ (qcg (by omega) q2),ol _ _ (qcg (by omega) q3),ol _ _ (qxq q4),?_,?_⟩
     ·
      rw[← hw7]
      refine(Below.heap_alloc _ _ _ (by rw[World.size_alloc];omega)).trans ?_
      have:=World.alloc_heap_new (w'.setCell {block:=w.heap.size+1+1+1+1,off:=0} (Value.int IntKind.i64 0)) (Obj.cells #[Value.int IntKind.i64 pl] 3)
      rwa [sz4] at this
     ·
      rw[← hw7]
      exact((bw.setCell (p:=⟨w.heap.size+1+1+1+1,0,none⟩) (by show _≤w.heap.size+1+1+1+1;omega) _).alloc (by rw[sz4];omega) _).alloc (by rw[World.size_alloc,sz4];omega) _
    have c72:w7.cell? ⟨w'.heap.size+1,2,none⟩=some (.slice sa sl sc):=by
     have:=World.alloc_heap_new ((w'.setCell {block:=w.heap.size+1+1+1+1,off:=0} (Value.int IntKind.i64 0)).alloc (Obj.cells #[Value.int IntKind.i64 pl] 3)) (Obj.cells #[Value.int IntKind.i64 c,Value.int IntKind.i64 o,Value.slice sa sl sc] 68)
     rw[World.size_alloc,sz4,hw7] at this
     exact cell_at this 2
    have z7':=a7.b.size
    clear hw7 d10 d11 d12
    refine wpIn_rangeFunc_ownG hro hn1 (gf:=215) (lb:=#[.pointer (some ⟨w'.heap.size+1,0,none⟩)]) rfl h3 (enters_of Tryz.func215 (by kernel_rfl) rfl)
     (q0J F (n-1) h3 hro (by omega) (w'.heap.size+1) w.heap.size (.slice sa sl sc) zs hreach w7 (by omega) z7' c72 (hI.below a7.b)) belowK_t (belowK_b z7') (Below.refl _ _) (fun _=>rfl)
     (fun pre W=>AtP w W w'.heap.size c o (.slice sa sl sc) pl 0 0 0∧AtNo pl pre)
     (fun cd pre W=>cd=.ret∧AtRet w W w'.heap.size c o (.slice sa sl sc) pl pre)
     (fun pre W W' row hs g hr=>⟨hs.1.own g (fun r e=>⟨by have:=(hr r e).1;omega,(hr r e).2⟩),hs.2⟩)
     (fun cd pre W W' row hs g hr=>by
      obtain⟨e1,x,pre',e2,e3,e4,e5⟩:=hs
      exact⟨e1,x,pre',e2,e3,e4,e5.own g (fun r e=>⟨by have:=(hr r e).1;omega,(hr r e).2⟩)⟩)
     ⟨a7,fun x hx=>by simp at hx⟩
     (fun x=>{tmps:=#[Value.agg #[y0,y1,y2,y3,y4,y5,y6,y7,y8,y9,y10,y11],Value.agg #[Value.int IntKind.i64 c,Value.int IntKind.i64 o,Value.slice sa sl sc],Value.int IntKind.i64 tick,Value.pointer (some {block:=w.heap.size,off:=0}),Value.pointer (some {block:=w.heap.size+1,off:=0}),undef,Value.pointer (some {block:=w.heap.size+1+1,off:=0}),Value.pointer (some {block:=w.heap.size+1+1+1,off:=0}),Value.pointer (some {block:=w.heap.size+1+1+1+1,off:=0}),Value.bool true,Value.pointer (some {block:=w'.heap.size,off:=0}),.int .i64 (x.1.1:Int),.int .i64 x.1.2,Value.tuple #[Value.bool true,Value.int IntKind.i64 0],Value.agg #[y0,y1,y2,y3,y4,y5,y6,y7,y8,y9,y10,y11],Value.agg #[Value.int IntKind.i64 c,Value.int IntKind.i64 o,Value.slice sa sl sc],Value.tuple #[Value.bool true,Value.int IntKind.i64 0],Value.bool true,Value.int IntKind.i64 0,Value.bool false,Value.int IntKind.i64 0,Value.bool false,undef,Value.bool false,Value.bool true,Value.bool false,Value.bool (decide (1073741824<tick)),Value.int IntKind.i64 tick,Value.bool (decide (tick<0)),Value.int IntKind.i64 tick,Value.bool (decide (1073741824<tick)),Value.int IntKind.i64 tick,Value.pointer (some {block:=w.heap.size+1,off:=0}),Value.int IntKind.i64 c,Value.int IntKind.i64 (wrap64 (tick+c)),Value.pointer (some {block:=w.heap.size+1,off:=1}),Value.int IntKind.i64 o,Value.int IntKind.i64 (wrap64 (wrap64 (tick+c)-o)),Value.pointer (some {block:=w.heap.size+1,off:=0}),Value.int IntKind.i64 c,Value.int IntKind.i64 pl,Value.agg #[Value.int IntKind.i64 c,Value.int IntKind.i64 o,Value.slice sa sl sc],Value.func (Fn.func 215) #[] #[Value.pointer (some {block:=w'.heap.size+1,off:=0})],.int .i64 (x.1.1:Int),.int .i64 x.1.2,undef,undef,undef,undef,undef,undef,undef,undef,undef,undef,undef,undef,undef],defers:=[]}) ?assign ?body ?done ?stop
    case assign =>
     intro l x W K hK
     gi_wp2
     exact hK
    case body =>
     rintro l pre x W ⟨hA,hp⟩ _
     have g1:=qcu hA.pc
     have g2:=qcu hA.r2
     have g3:=qcu hA.r3
     have g4:=qcu hA.r4
     have f2:=qaE hA.r2 0
     have f3:=qaE hA.r3 0
     have f4:=qaE hA.r4 0
     have gp:W.cell? ⟨w.heap.size+1,2,none⟩=some (.slice sa sl sc):=cell_at hA.p1 2
     by_cases cl:pl<x.1.2
     ·
      rcases hI.below hA.b with ⟨ad,e,hz⟩|⟨b,off,cap,e,hb,hc⟩
      ·
       subst hz;exact absurd x.2 (Nat.not_lt_zero _)
      ·
       cases e
       have hcx:=hc x.1.1 x.2
       rw[List.getElem?_eq_getElem x.2] at hcx
       have hcx:W.cell? ⟨b,off+x.1.1,none⟩=some (.int .i64 (zs[x.1.1]'x.2)):=hcx
       have hx2:=x.2
       have hmix:Tryz.prog.follows .mixedOrders=true:=by kernel_rfl
       gi_wp2
       refine qrt hmix (by kernel_rfl) ?_
       simp only[List.size_toArray,List.length_cons,List.length_nil,Nat.reduceAdd,Array.replicate_succ,Array.replicate_zero,List.push_toArray,List.nil_append,List.cons_append]
       repeat' (first
        |exact AllReadyIn.nil
        |(refine AllReadyIn.cons rfl (fun K hK=>?_) ?_)
        |(refine wpAnyIn_done (by decide +kernel) ?_ _)
        |(refine wpAnyIn_take (i:=0) (v:=?_) hro rfl (by decide +kernel) (by decide +kernel) (by decide +kernel) (fun _ _ _ h=>h) ⟨Or.inl ⟨by rfl,?_⟩,fun _=>rfl⟩ ?_;rotate_left;(intro w0;go_simp;(try with_reducible rfl)))|(refine wpAnyIn_take (i:=2) (v:=?_) hro rfl (by decide +kernel) (by decide +kernel) (by decide +kernel) (fun _ _ _ h=>h) ⟨Or.inl ⟨by rfl,?_⟩,fun _=>rfl⟩ ?_;rotate_left;(intro w0;go_simp;(try with_reducible rfl)))|(refine wpAnyIn_take (i:=4) (v:=?_) hro rfl (by decide +kernel) (by decide +kernel) (by decide +kernel) (fun _ _ _ h=>h) ⟨Or.inl ⟨by rfl,?_⟩,fun _=>rfl⟩ ?_;rotate_left;(intro w0;go_simp;(try with_reducible rfl)))|(refine wpAnyIn_take (i:=6) (v:=?_) hro rfl (by decide +kernel) (by decide +kernel) (by decide +kernel) (fun _ _ _ h=>h) ⟨Or.inl ⟨by rfl,?_⟩,fun _=>rfl⟩ ?_;rotate_left;(intro w0;go_simp;(try with_reducible rfl)))|(refine wpAnyIn_take (i:=3) (v:=?_) hro rfl (by decide +kernel) (by decide +kernel) (by decide +kernel) (fun _ _ _ h=>h) ⟨Or.inl ⟨by rfl,?_⟩,fun _=>rfl⟩ ?_;rotate_left;(intro w0;go_simp;(try with_reducible rfl)))|(refine wpAnyIn_take (i:=7) (v:=?_) hro rfl (by decide +kernel) (by decide +kernel) (by decide +kernel) (fun _ _ _ h=>h) ⟨Or.inl ⟨by rfl,?_⟩,fun _=>rfl⟩ ?_;rotate_left;(intro w0;go_simp;(try with_reducible rfl)))|(refine wpAnyIn_take (i:=9) (v:=?_) hro rfl (by decide +kernel) (by decide +kernel) (by decide +kernel) (fun _ _ _ h=>h) ⟨Or.inl ⟨by rfl,?_⟩,fun _=>rfl⟩ ?_;rotate_left;(intro w0;go_simp;(try with_reducible rfl)))
        |(refine wpAnyIn_ready (rs:=[1,5,10]) (by decide +kernel) (by simp) ?_)|(refine wpAnyIn_ready (rs:=[1,5]) (by decide +kernel) (by simp) ?_)|(refine wpAnyIn_ready (rs:=[1,10]) (by decide +kernel) (by simp) ?_)|(refine wpAnyIn_ready (rs:=[5,10]) (by decide +kernel) (by simp) ?_)|(refine wpAnyIn_ready (rs:=[1]) (by decide +kernel) (by simp) ?_)|(refine wpAnyIn_ready (rs:=[5]) (by decide +kernel) (by simp) ?_)|(refine wpAnyIn_ready (rs:=[10]) (by decide +kernel) (by simp) ?_)|(refine wpAnyIn_ready (rs:=[1,8,10]) (by decide +kernel) (by simp) ?_)|(refine wpAnyIn_ready (rs:=[1,8]) (by decide +kernel) (by simp) ?_)|(refine wpAnyIn_ready (rs:=[8,10]) (by decide +kernel) (by simp) ?_)|(refine wpAnyIn_ready (rs:=[8]) (by decide +kernel) (by simp) ?_)|(refine wpAnyIn_ready (rs:=[11]) (by decide +kernel) (by simp) ?_)|(refine wpAnyIn_ready (rs:=[12]) (by decide +kernel) (by simp) ?_)
        |(go_simp;refine hK _ _ ?_;clear hK K))
       all_goals gi_wp2
       all_goals (refine⟨kf146 _ _ _ _ _ _ _ _,?_⟩;simp only[wI];refine⟨trivial,atRet_mk hp cl ?_⟩;first|exact(hA.set (by omega)).drew|exact hA.drew.set (by omega)|exact(hA.set (u2:=(x.1.1:Int)) (u3:=wrap64 (wrap64 (pl-x.1.2)+zs[x.1.1]'x.2)) (u4:=0) (by omega)).drew)
     ·
      have cl':x.1.2≤pl:=by omega
      gi_wp2
      refine⟨KeepsFrom.refl _ _,Below.refl _ _,hA,?_⟩
      intro y hm
      rcases List.mem_append.1 hm with hm|hm
      ·
       exact hp _ hm
      ·
       rw[List.mem_singleton.1 hm];exact Int.not_lt.2 cl'
    case done =>
     rintro D ys W hD rfl ⟨hA,hp⟩ hK
     have g2:=qcu hA.r2
     have g3:=qcu hA.r3
     have g4:=qcu hA.r4
     have f2:=qaE hA.r2 0
     have f3:=qaE hA.r3 0
     have f4:=qaE hA.r4 0
     have hs:=q7d pl zs hreach (fun j hj=>hp _ (q7a zs zs.length (Nat.le_refl _) j hj))
     rw[hSc] at hs
     simp only[Prod.mk.injEq] at hs
     obtain⟨rfl,rfl,rfl⟩:=hs
     gi_wp2
     refine fin146 (hA.set (u2:=0) (u3:=0) (u4:=170) (by omega)) rfl rfl rfl (qcg (by omega) (qcg (by omega) (qcg (by omega) hK))) (fun hb=>⟨rfl,hb⟩) (by omega)
    case stop =>
     rintro D cd pre W hD ⟨k,hk,rfl⟩⟨rfl,x,pre',e2,e3,e4,e5⟩ hK
     have hx:x∈up zs k hk:=by rw[e2];simp
     obtain⟨hx1,hx2⟩:=up_mem zs k hk x hx
     have hk1:k=pre'.length+1:=by have:=congrArg List.length e2;rw[qoC] at this;simpa using this
     have hs:=scan_at pl zs hreach x.1.1 x.2 (fun j hj=>?_) (by rw[← hx1];exact e4)
     ·
      rw[hSc] at hs
      rw[hx1] at e5
      simp only[Prod.mk.injEq] at hs
      obtain⟨rfl,rfl,rfl⟩:=hs
      gi_wp2
      exact fin146 e5 rfl rfl rfl hK (fun hb=>⟨rfl,hb⟩) (by omega)
     ·
      have hm:=q7a zs k hk j (by omega)
      rw[e2] at hm
      rcases List.mem_append.1 hm with hm|hm
      ·
       exact e3 _ hm
      ·
       have e:=List.mem_singleton.1 hm
       rw[← e] at hj;exact absurd hj (Nat.lt_irrefl _)
 ·
  have hN':ra=0∧rb=0∧re=er:=by
   unfold qoI at hN
   dsimp only at hN
   rw[show (er != 0)=true from by simpa using ce] at hN
   simp only[cond_true,Option.some.injEq,Prod.mk.injEq] at hN
   omega
  obtain⟨rfl,rfl,rfl⟩:=hN'
  obtain⟨h2',h3',h4',hb'⟩:=ex146 (e0:=.int .i64 re) (u2:=.int .i64 0) (u3:=.int .i64 0) (u4:=.int .i64 re) (w':=w'.drew) q2 q3 q4 bw.drew
  gi_wp2
  gi_region
  all_goals (try gi_wp2)
  all_goals (first|exact qvc rfl rfl rfl h2' h3' h4' ⟨rfl,hb'⟩|fail)
end Go.Proofs.YtcdppfnjidlknaaGreatDoor
