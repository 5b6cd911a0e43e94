import Derived.Test.YtcdppfnjidlknaaGreatDoorYaq
import Derived.RangeFuncNested
import Derived.RangeFuncBound
import Derived.RangeFuncCalls
import Derived.RangeFuncLeaves
import Derived.Shelf.Abstract
import Derived.WalkKit
import Derived.OwnWalkIn
import Derived.TacticsInMore
import Derived.LoopNIn
import Derived.LoopIn
import Derived.Maps.AppendAt
import Derived.Laws.Rows
set_option linter.unusedVariables false
set_option linter.unusedSimpArgs false
namespace Go.Proofs.YtcdppfnjidlknaaGreatDoor
open Go Go.RowKit Go.Shelf Go.Proofs
attribute [local go_sem] Oper.semAt_some
def plsV (p:Eng.Pls):Value:=.agg #[.bool p.upf,.bool p.rawf,.int .i64 p.sincef]
set_option maxHeartbeats 1000000 in
theorem qxo (F:Fence) (n:Nat) (h:F.fn 185) (hro:F.round=none) (u r:Bool) (s:Int) (a:Option Addr) (len cap:Nat) (hold:Int) (w:World) :
  CallsIn F n Tryz.prog 185 #[.agg #[.bool u,.bool r,.int .i64 s],.slice a len cap,.int .i64 hold] w fun e w'=>e=.returned (.func (.func 214) #[] #[.pointer (some ⟨w.heap.size+1,0,none⟩),.pointer (some ⟨w.heap.size,0,none⟩),.pointer (some ⟨w.heap.size+2,0,none⟩)])∧w'=((w.alloc (.cells #[.bool u,.bool r,.int .i64 s] 150)).alloc (.cells #[.slice a len cap] 226)).alloc (.cells #[.int .i64 hold] 3):=by
 refine callsIn_of_wp Tryz.func185 rfl h ?_ hro
 simp only[Tryz.ntmps185,List.size_toArray,List.length_cons,List.length_nil,Nat.reduceAdd,Nat.reduceSub,Array.replicate_succ,Array.replicate_zero,List.push_toArray,List.append_toArray,List.nil_append,List.cons_append]
 gi_wp2
 go_ret
 exact⟨rfl,rfl⟩
set_option maxHeartbeats 2000000 in
theorem asked_in (F:Fence) (n:Nat) (h:F.fn 184) (hro:F.round=none) (u r:Bool) (s many hold:Int) (w:World) :
  CallsIn F n Tryz.prog 184 #[.agg #[.bool u,.bool r,.int .i64 s],.int .i64 many,.int .i64 hold] w fun e w'=>e=.returned (.int .i64 (if s<0∨1048576<s then 8 else if 4096<many then 4 else if hold<1∨1048576<hold then 2 else 0))∧w'=w.alloc (.cells #[.bool u,.bool r,.int .i64 s] 150):=by
 refine callsIn_of_wp Tryz.func184 rfl h ?_ hro
 simp only[Tryz.ntmps184,List.size_toArray,List.length_cons,List.length_nil,Nat.reduceAdd,Nat.reduceSub,Array.replicate_succ,Array.replicate_zero,List.push_toArray,List.append_toArray,List.nil_append,List.cons_append]
 gi_wp2
 all_goals (refine bodyPost_ret (results_tmp rfl _ _ _) rfl ⟨?_,rfl⟩)
 all_goals (first|rfl|(congr 2;simp_all;done))
def askE (s many hold:Int):Int:=if s<0∨1048576<s then 8 else if 4096<many then 4 else if hold<1∨1048576<hold then 2 else 0
theorem q6X (F:Fence) (n:Nat) (h:F.fn 184) (hro:F.round=none) (u r:Bool) (s many hold er:Int) (he:askE s many hold=er) (w:World) :
  CallsIn F n Tryz.prog 184 #[.agg #[.bool u,.bool r,.int .i64 s],.int .i64 many,.int .i64 hold] w fun e w'=>e=.returned (.int .i64 er)∧w'=w.alloc (.cells #[.bool u,.bool r,.int .i64 s] 150):=by
 subst he;exact asked_in F n h hro u r s many hold w
end Go.Proofs.YtcdppfnjidlknaaGreatDoor
namespace Go
open Go.RowKit
variable {F : Fence} {n : Nat} {P : Program} {w : World}
def onePost (B:Nat)(K:World→Prop)(W:World):Exit→Act→World→Prop
 |.normal,_,W'=>KeepsFrom B W W'∧K W'
 |_,_,_=>False
theorem qjd {g:Operand} {ps:Array Tmp} {assign body:Code} {Q:Exit→Act→World→Prop} {a:Act} {w:World}
  (hro:F.round=none) (h1:1≤n) {gf:Nat} {lb:Array Value} (hg:a.eval g=.func (.func gf) #[] lb) (hFg:F.fn gf) (eg:∀ args w,(callFunc gf args).run P w=.ok (.enter gf args) w)
  (xs:Array Value) (hps:xs.size=ps.size) (Bi:Nat) (hBi:Bi<w.heap.size)
  (hit:∀ (l:Nat) (W1:World) (R:World→Prop),Below w.heap.size w W1→(∀ W2,W1.grownBy W2 (some Bi)→YieldAt F (n-1-1) P l xs W2 fun e W'=>e=.returned (.bool true)∧R W') →
   CallsIn F (n-1) P gf (#[.func (.yield l) #[] #[]]++lb) W1 fun e W'=>(∃ v,e=.returned v)∧R W')
  (J K:World→Prop) (hJ:OwnFrom w.heap.size (fun(_:Unit) W=>J W)) (hK:OwnFrom w.heap.size (fun(_:Unit) W=>K W)) (hJB:∀ W W',J W→W.grownBy W' (some Bi)→J W') (h0:J w)
  (Ax:Act→World→Prop) (hAx:∀ a',OwnFrom w.heap.size (fun(_:Unit) W=>Ax a' W))
  (hassign:∀ (l:Nat) (W:World) (k:Act→World→Prop),J W→w.heap.size≤W.heap.size→(∀ a' W',KeepsFrom w.heap.size W W'→Ax a' W'→k a' W') →
   assign.wpIn (F.inRound l) (n-1-1) P (Exit.then k (fun _ _ _=>False)) {tmps:=(ps.zip xs).foldl (fun t (p,v)=>t.setIfInBounds p v) a.tmps,defers:=[]} W)
  (hbody:∀ (l:Nat) (a':Act) (W:World),Ax a' W→body.wpIn (F.inRound l) (n-1-1) P (onePost w.heap.size K W) a' W)
  (hdone:∀ (D:Nat) (W:World),w.heap.size≤D→K W→W.heap[D]? = some (.deferred (some []))→Q .normal {a with defers:={target:=.collected D,args:=#[]}::a.defers} W) :
  (Code.rangeFunc g ps assign body).wpIn F n P Q a w:=by
 refine wpIn_rangeFunc ?_
 intro fn hfn
 rw[hro]
 obtain⟨rec,hrec⟩:∃ rec:LoopState→Option Code→Loop,rec=fun st pe=>{state:=st,pending:=pe,fn,tmps:=a.tmps,params:=ps,assign,body,defers:=w.heap.size}:=⟨_,rfl⟩
 obtain⟨W1,hW1⟩:∃ W1,(w.alloc (.deferred (some []))).alloc (.loop (rec .ready none))=W1:=⟨_,rfl⟩
 have hL1:W1.heap[w.heap.size+1]? = some (.loop (rec .ready none)):=by
  rw[← hW1];have:=World.alloc_heap_new (w.alloc (.deferred (some []))) (.loop (rec .ready none));rwa [World.size_alloc] at this
 have hK1:W1.heap[w.heap.size]? = some (.deferred (some [])):=by
  rw[← hW1];exact(Below.heap_alloc _ _ _ (by simp)).trans (World.alloc_heap_new w _)
 have hJ1:J W1:=by rw[← hW1];exact hJ.alloc (s:=()) _ (hJ.alloc (s:=()) _ h0)
 have hz1:w.heap.size≤W1.heap.size:=by rw[← hW1];simp;omega
 have hb1:Below w.heap.size w W1:=by
  rw[← hW1];exact((Below.refl _ w).alloc (Nat.le_refl _) _).alloc (by simp) _
 refine⟨w.heap.size+1,[{target:=.collected w.heap.size,args:=#[]}],W1,{target:=.fn (.func gf) lb,args:=#[.func (.yield (w.heap.size+1)) #[] #[]]},W1,gf,#[.func (.yield (w.heap.size+1)) #[] #[]]++lb,W1,?_,?_,?_,?_,fun _=>h1,?_⟩
 ·
  rw[← hW1,hrec];exact run_enterLoop_outer _ _ _ _ _
 ·
  simp only[resolve,hg]
  simp[go_sem]
 ·
  intro f' hf';simp[Target.leads] at hf';subst hf';exact hFg
 ·
  simp[invoke,go_sem,eg]
 ·
  refine(hit (w.heap.size+1) W1 (fun W=>K W∧W.heap[w.heap.size+1]? = some (.loop (rec .ready none))∧W.heap[w.heap.size]? = some (.deferred (some []))) hb1 ?_).mono ?_
  ·
   intro W hgW
   have hi:=hJB _ _ hJ1 hgW
   have hl:W.heap[w.heap.size+1]? = some (.loop (rec .ready none)):=(hgW.block _ (Array.getElem?_eq_some_iff.1 hL1).1 (fun e=>by simp at e;omega)).trans hL1
   have hk:W.heap[w.heap.size]? = some (.deferred (some [])):=(hgW.block _ (Array.getElem?_eq_some_iff.1 hK1).1 (fun e=>by simp at e;omega)).trans hK1
   have hzW:w.heap.size≤W.heap.size:=Nat.le_trans hz1 hgW.size
   have hy:=run_yield (P:=P) (args:=xs) hl (by rw[hrec];exact hps)
   rw[hrec] at hy
   refine⟨fn,_,assign,body,hy,roundIn_of_wpIn hfn (hassign _ W _ hi hzW ?_)⟩
   clear hy
   intro a' Wa hkfa hax
   replace hl:=hkfa.same _ _ (by omega) hl rfl
   replace hk:=hkfa.same _ _ (Nat.le_refl _) hk rfl
   have hlt:w.heap.size+1<Wa.heap.size:=(Array.getElem?_eq_some_iff.1 hl).1
   refine⟨_,run_beginRound hl (by rw[hrec]),?_⟩
   have hl2:(Wa.putObj (w.heap.size+1) (.loop {rec .ready none with state:=.busy})).heap[w.heap.size+1]? = some (.loop {rec .ready none with state:=.busy}):=World.putObj_heap_same hlt
   have hk2:(Wa.putObj (w.heap.size+1) (.loop {rec .ready none with state:=.busy})).heap[w.heap.size]? = some (.deferred (some [])):=(World.putObj_heap_other (by omega)).trans hk
   refine wpIn_mono (hbody _ a' _ ((hAx a').putObj (s:=()) _ hax (by omega) hl rfl)) ?_
   rintro e a3 W3 hp
   cases e with
   |normal =>
    obtain⟨hk3,hi3⟩:=hp
    have hl3:=hk3.same _ _ (by omega) hl2 rfl
    have hr:=run_endRound (P:=P) none hl3
    rw[hrec] at hr hl3
    refine⟨_,_,hr,rfl,hK.putObj (s:=()) _ hi3 (by omega) hl3 rfl,?_,(World.putObj_heap_other (by omega)).trans (hk3.same _ _ (Nat.le_refl _) hk2 rfl)⟩
    rw[hrec]
    exact World.putObj_heap_same (Array.getElem?_eq_some_iff.1 hl3).1
   |ret=>exact hp.elim
   |exit id=>exact hp.elim
   |goto t=>exact hp.elim
   |panic ch=>exact hp.elim
   |outgrown=>exact hp.elim
  ·
   rintro e W2 ⟨⟨v,rfl⟩,hi,hl,hk⟩
   exact⟨none,_,by have:=run_endLoop (P:=P) hl (by rw[hrec];simp);rw[hrec] at this;exact this,hdone _ _ (Nat.le_refl _) (hK.putObj (s:=()) _ hi (by omega) hl rfl) ((World.putObj_heap_other (by omega)).trans hk)⟩
end Go
namespace Go.Proofs.YtcdppfnjidlknaaGreatDoor
open Go Go.RowKit Go.Shelf Go.Proofs
attribute [local go_sem] Oper.semAt_some
theorem cs_off (w:World)(b i j:Nat)(v:Value)(h:i≠j):(w.setCell ⟨b,i,none⟩ v).cell? ⟨b,j,none⟩=w.cell? ⟨b,j,none⟩:=World.cell?_setCell_other _ _ _ _ (fun e=>h (by cases e;rfl))
theorem cs_blk (w:World)(b c i j:Nat)(v:Value)(h:b≠c):(w.setCell ⟨b,i,none⟩ v).cell? ⟨c,j,none⟩=w.cell? ⟨c,j,none⟩:=World.cell?_setCell_other _ _ _ _ (fun e=>h (by cases e;rfl))
theorem cs_twice (w:World)(b i:Nat)(u v:Value):(w.setCell ⟨b,i,none⟩ u).setCell ⟨b,i,none⟩ v=w.setCell ⟨b,i,none⟩ v:=by
 unfold World.setCell
 dsimp only
 congr 1
 apply Array.ext_getElem?
 intro k
 simp only[Array.getElem?_modify]
 by_cases h:b=k
 ·
  simp only[if_pos h]
  cases w.heap[k]? with
  |none=>rfl
  |some o=>cases o<;>simp
 ·
  simp only[if_neg h]
attribute [local go_sem] cs_off cs_blk cs_twice
theorem pls_new {u r x:Bool}{s hold:Int}(h:(!x==r)=true):qeo ⟨u,r,s⟩ x hold=⟨if hold≤1 then x else u,x,1⟩:=by
 have e:(x != r)=true:=h
 unfold qeo
 dsimp only
 rw[e]
 have e2:min (IntKind.i64.wrap ((bif true then 0 else s)+1)) 1048576=1:=by show min (IntKind.i64.wrap (0+1)) 1048576=1;decide
 rw[e2]
 by_cases c:hold≤1
 ·
  rw[if_pos c,show decide ((1:Int)≥hold)=true from decide_eq_true c];rfl
 ·
  rw[if_neg c,show decide ((1:Int)≥hold)=false from decide_eq_false c];rfl
theorem pls_old {u r x:Bool}{s hold:Int}(h:(!x==r)=false):qeo ⟨u,r,s⟩ x hold=⟨if hold≤(if 1048576<wrap64 (s+1) then 1048576 else wrap64 (s+1)) then x else u,r,if 1048576<wrap64 (s+1) then 1048576 else wrap64 (s+1)⟩:=by
 have e:(x != r)=false:=h
 have er:x=r:=by cases x<;>cases r<;>simp at e ⊢
 subst er
 unfold qeo
 dsimp only
 rw[e]
 have e2:min (IntKind.i64.wrap ((bif false then 0 else s)+1)) 1048576=if 1048576<wrap64 (s+1) then 1048576 else wrap64 (s+1):=by
  rw[show IntKind.i64.wrap ((bif false then 0 else s)+1)=wrap64 (s+1) from by unfold wrap64;exact IntKind.wrap_i64 (s+1)]
  split<;>omega
 rw[e2]
 by_cases c:hold≤(if 1048576<wrap64 (s+1) then 1048576 else wrap64 (s+1))
 ·
  rw[if_pos c,show decide ((if 1048576<wrap64 (s+1) then 1048576 else wrap64 (s+1))≥hold)=true from decide_eq_true c];rfl
 ·
  rw[if_neg c,show decide ((if 1048576<wrap64 (s+1) then 1048576 else wrap64 (s+1))≥hold)=false from decide_eq_false c];rfl
theorem gb_set {W W1:World}{b j:Nat}{v:Value}(h:W.grownBy W1 (some b)):W.grownBy (W1.setCell ⟨b,j,none⟩ v) (some b) :=
 ⟨h.os,h.tape,h.output,by have:=h.size;simpa [World.setCell] using this,fun k hk hne=>(Below.heap_setCell _ _ _ k (fun e=>hne (by rw[e]))).trans (h.block k hk hne)⟩
theorem q4U {F:Fence} {n l Bp:Nat} {o:Oper} {a:Act} {next:Act→World→Prop} {Q:Exit→Act→World→Prop} {W W1:World} {p:Eng.Pls} {u r:Bool} {s:Int} {R:World→Prop}
  (hY:∀ W1,W.grownBy W1 (some Bp)→YieldAt F (n-1) Tryz.prog l #[plsV p] W1 fun e W'=>e=.returned (.bool true)∧R W') (hn:1≤n) (hg:W.grownBy W1 (some Bp)) (he:p=⟨u,r,s⟩) (hk:∀ W',R W'→next (a.put o.dst (.bool true)) W') :
  Oper.uponIn F n Tryz.prog o a next Q (Sem.run Tryz.prog (Instr.yield l #[Value.agg #[.bool u,.bool r,.int .i64 s]]) W1):=by
 obtain⟨fn,tmps,assign,body,hy,hR⟩:=hY W1 hg
 subst he
 have hy':Sem.run Tryz.prog (Instr.yield l #[Value.agg #[.bool u,.bool r,.int .i64 s]]) W1=.ok (.round l fn tmps assign body) W1:=hy
 rw[hy',Oper.uponIn_round]
 exact⟨fun _=>hn,hR.mono fun e W' ⟨h1,h2⟩=>by subst h1;exact hk W' h2⟩
set_option maxRecDepth 100000 in
set_option maxHeartbeats 2000000 in
theorem q4V (F:Fence) (n:Nat) (h:F.fn 214) (hro:F.round=none) (hn:1≤n) (l Br Bp Bh b off cap:Nat) (u r:Bool) (s:Int) (x:Bool) (hold:Int) (W:World)
  (hBr:W.cell? ⟨Br,0,none⟩=some (.slice (some ⟨b,off,none⟩) 1 cap)) (hx:W.cell? ⟨b,off,none⟩=some (.bool x))
  (hu:W.cell? ⟨Bp,0,none⟩=some (.bool u)) (hr:W.cell? ⟨Bp,1,none⟩=some (.bool r)) (hs:W.cell? ⟨Bp,2,none⟩=some (.int .i64 s))
  (hfz:∀ j,W.frozen? ⟨Bp,j,none⟩=false) (hh:W.cell? ⟨Bh,0,none⟩=some (.int .i64 hold)) (n1:Bp≠Br) (n2:Bp≠b) (n3:Bp≠Bh) (R:World→Prop)
  (hY:∀ W1,W.grownBy W1 (some Bp)→YieldAt F (n-1) Tryz.prog l #[plsV (qeo ⟨u,r,s⟩ x hold)] W1 fun e W'=>e=.returned (.bool true)∧R W') :
  CallsIn F n Tryz.prog 214 #[.func (.yield l) #[] #[],.pointer (some ⟨Br,0,none⟩),.pointer (some ⟨Bp,0,none⟩),.pointer (some ⟨Bh,0,none⟩)] W fun e W'=>(∃ v,e=.returned v)∧R W':=by
 refine callsIn_of_wp Tryz.func214 rfl h ?_ hro
 simp only[Tryz.ntmps214,List.size_toArray,List.length_cons,List.length_nil,Nat.reduceAdd,Nat.reduceSub,Array.replicate_succ,Array.replicate_zero,List.push_toArray,List.append_toArray,List.nil_append,List.cons_append]
 gi_wp2
 gi_loopw [9] (fun i wr=>(i=.int .i64 0∧wr=W)∨(i=.int .i64 1∧R wr)) (fun i _=>1-(intOf i).toNat)
 case atStart=>exact .inl ⟨rfl,rfl⟩
 case round =>
  rcases hrel with ⟨rfl,rfl⟩|⟨rfl,hR⟩
  ·
   gi_wp2
   all_goals (refine q4U hY hn (by first|exact World.grownBy.refl _ _|(repeat (first|exact World.grownBy.refl _ _|refine gb_set ?_))) ?_ ?_)
   all_goals (first|(intro W' hR';gi_wp2;go_roundw;(case rel=>exact .inr ⟨rfl,hR'⟩);(case measure=>simp[intOf]))|(rw[pls_new (by assumption)];first|rw[if_pos (by assumption)]|rw[if_neg (by omega)])|(rw[pls_old (by assumption)];first|rw[if_pos (by assumption),if_pos (by assumption)]|rw[if_pos (by assumption),if_neg (by omega)]|rw[if_neg (by omega),if_pos (by assumption)]|rw[if_neg (by omega),if_neg (by omega)]))
  ·
   gi_wp2
   go_end0
   exact⟨⟨_,rfl⟩,hR⟩
end Go.Proofs.YtcdppfnjidlknaaGreatDoor
namespace Go.Proofs.YtcdppfnjidlknaaGreatDoor
open Go Go.RowKit Go.Shelf Go.Proofs
attribute [local go_sem] Oper.semAt_some cs_off cs_blk cs_twice
theorem info4:(Tryz.prog.info? 4).map (fun i=>(i.zero,i.size,i.bytes))=some (some (.bool false),1,1):=by kernel_rfl
theorem mk_bool (w:World):(Instr.makeSlice 226 (.int .i64 0) (.int .i64 1)).run Tryz.prog w=.ok (.slice (some ⟨w.heap.size,0,none⟩) 0 1) (w.alloc (.cells #[.bool false] 4)):=by
 obtain⟨i0,hi,hz0,hz1,hz2⟩:=info_parts info4
 have:=run_makeSlice (P:=Tryz.prog) (w:=w) 226 4 i0 (.bool false) Tryz.underlying226 hi hz0 .i64 .i64 0 1 (by decide) (by decide) (by rw[hz1];decide) (by rw[hz2];decide) (by decide)
 rw[hz1] at this
 have e:madeCells (Value.bool false).cells (Int.toNat 1*1)=#[.bool false]:=by kernel_rfl
 rw[e] at this
 exact this
theorem own3 {X:World}{g base:Nat}{x:Bool}(h:X.heap[g]? = some (.cells #[.bool x] 4 (0,0)))(hb:base≤g):X.ownsRow base 4 1 (.slice (some ⟨g,0,none⟩) 0 1) 0 [] :=
 ⟨rfl,.inr ⟨g,1,_,rfl,hb,h,by omega,by decide,rfl,rfl⟩⟩
theorem set3 {W:World}{b:Nat}{x0 x1 x2 y0 y1 y2:Value}{e:TypeId}(h:W.heap[b]? = some (.cells #[x0,x1,x2] e (0,0))):(((W.setCell ⟨b,0,none⟩ y0).setCell ⟨b,1,none⟩ y1).setCell ⟨b,2,none⟩ y2).heap[b]? = some (.cells #[y0,y1,y2] e (0,0)):=by
 simp[World.setCell,Array.getElem?_modify,h]
structure PF (w W:World) (u r:Bool) (s:Int) (v:Value):Prop where
 c0:W.heap[w.heap.size]? = some (.cells #[.bool u,.bool r,.int .i64 s] 150 (0,0))
 c1:W.heap[w.heap.size+1]? = some (.cells #[.bool false,.bool false,.int .i64 0] 150 (0,0))
 c3:∃ x,W.heap[w.heap.size+3]? = some (.cells #[.bool x] 4 (0,0))
 c4:W.heap[w.heap.size+4]? = some (.cells #[v] 226 (0,0))
 b:Below w.heap.size w W
theorem PF.keep {w W W':World}{u r:Bool}{s:Int}{v:Value}{row:Option Nat}(h:PF w W u r s v)(g:W.grownBy W' row)(hr:∀ k,row=some k→w.heap.size+4<k):PF w W' u r s v:=by
 have k:∀ (j:Nat) (o:Obj),j≤w.heap.size+4→W.heap[j]? = some o→W'.heap[j]? = some o:=fun j o hj ho =>
  (g.block j (Array.getElem?_eq_some_iff.1 ho).1 (fun e=>by have:=hr j e.symm;omega)).trans ho
 obtain⟨x,c3⟩:=h.c3
 exact⟨k _ _ (by omega) h.c0,k _ _ (by omega) h.c1,⟨x,k _ _ (by omega) c3⟩,k _ _ (by omega) h.c4,h.b.grown g h.b.size (fun j e=>by have:=hr j e;omega)⟩
theorem run_end {w W w1:World} {u r:Bool} {s:Int} {p:Eng.Pls} {v v':Value} {x3:Bool} (h2:PF w W u r s v) (c3:W.heap[w.heap.size+3]? = some (.cells #[.bool x3] 4 (0,0))) (hz:w.heap.size+8≤W.heap.size)
  (hgrow:((((W.setCell ⟨w.heap.size,0,none⟩ (.bool p.upf)).setCell ⟨w.heap.size,1,none⟩ (.bool p.rawf)).setCell ⟨w.heap.size,2,none⟩ (.int .i64 p.sincef)).alloc (.cells #[.bool p.upf] 4)).grownBy w1 (some (w.heap.size+3)))
  (hown:w1.ownsRow w.heap.size 4 1 (.slice (some ⟨w.heap.size+3,0,none⟩) (0+1) 1) (0+1) ([]++[.bool p.upf])) :
  (w1.heap[w.heap.size+4]? = some (.cells #[v] 226 (0,0)))∧KeepsFrom (w.heap.size+8) W (w1.setCell ⟨w.heap.size+4,0,none⟩ v')∧PF w (w1.setCell ⟨w.heap.size+4,0,none⟩ v') p.upf p.rawf p.sincef v':=by
 have s3:(((W.setCell ⟨w.heap.size,0,none⟩ (.bool p.upf)).setCell ⟨w.heap.size,1,none⟩ (.bool p.rawf)).setCell ⟨w.heap.size,2,none⟩ (.int .i64 p.sincef)).heap.size=W.heap.size:=by simp[World.setCell]
 have up:∀ (k:Nat) (o:Obj),k≠w.heap.size→k≠w.heap.size+3→W.heap[k]? = some o→w1.heap[k]? = some o:=fun k o n1 n2 ho=>by
  have hk:=(Array.getElem?_eq_some_iff.1 ho).1
  refine(hgrow.block k (by rw[World.size_alloc,s3];omega) (fun e=>n2 (by simpa using e))).trans ((Below.heap_alloc _ _ _ (by rw[s3];exact hk)).trans ?_)
  exact((Below.heap_setCell _ _ _ _ n1).trans ((Below.heap_setCell _ _ _ _ n1).trans (Below.heap_setCell _ _ _ _ n1))).trans ho
 have c4:=up _ _ (by omega) (by omega) h2.c4
 have c0:w1.heap[w.heap.size]? = some (.cells #[.bool p.upf,.bool p.rawf,.int .i64 p.sincef] 150 (0,0)):=by
  have hk:=(Array.getElem?_eq_some_iff.1 h2.c0).1
  exact(hgrow.block w.heap.size (by rw[World.size_alloc,s3];omega) (fun e=>by simp at e)).trans ((Below.heap_alloc _ _ _ (by rw[s3];exact hk)).trans (set3 h2.c0))
 have b0:Below w.heap.size W (((W.setCell ⟨w.heap.size,0,none⟩ (.bool p.upf)).setCell ⟨w.heap.size,1,none⟩ (.bool p.rawf)).setCell ⟨w.heap.size,2,none⟩ (.int .i64 p.sincef)):=(((Below.refl _ W).setCell (p:=⟨w.heap.size,0,none⟩) (show w.heap.size≤w.heap.size from Nat.le_refl _) _).setCell (p:=⟨w.heap.size,1,none⟩) (show w.heap.size≤w.heap.size from Nat.le_refl _) _).setCell (p:=⟨w.heap.size,2,none⟩) (show w.heap.size≤w.heap.size from Nat.le_refl _) _
 have bz:Below w.heap.size W w1:=(b0.alloc (by rw[s3];omega) _).grown hgrow (by rw[World.size_alloc,s3];omega) (fun k e=>by cases e;omega)
 have set4:∀ (k:Nat) (o:Obj),k≠w.heap.size+4→w1.heap[k]? = some o→(w1.setCell ⟨w.heap.size+4,0,none⟩ v').heap[k]? = some o:=fun k o n1 ho=>(Below.heap_setCell _ _ _ _ n1).trans ho
 refine⟨c4,?_,⟨set4 _ _ (by omega) c0,set4 _ _ (by omega) (up _ _ (by omega) (by omega) h2.c1),?_,?_,(h2.b.trans bz).setCell (p:=⟨w.heap.size+4,0,none⟩) (by show _≤w.heap.size+4;omega) _⟩⟩
 ·
  refine KeepsFrom.trans (KeepsFrom.trans ((((KeepsOthers.setCell W _ _).trans (KeepsOthers.setCell _ _ _)).trans (KeepsOthers.setCell _ _ _)).trans (KeepsOthers.alloc _ _) |>.from _) (KeepsFrom.of_grownBy hgrow (fun j e=>by cases e;omega))) ((KeepsOthers.setCell _ _ _).from _)
 ·
  rcases hown.2 with ⟨h,-⟩|⟨g,cap,cur,e,-,hc,h1,-,hsz,ht⟩
  ·
   cases h
  ·
   cases e
   refine⟨p.upf,set4 _ _ (by omega) ?_⟩
   rw[hc]
   obtain⟨l⟩:=cur
   simp at hsz ht
   match l,hsz,ht with
   | [y],_,ht=>simp at ht;rw[ht]
 ·
  simp[World.setCell,Array.getElem?_modify,c4]
theorem cell_at {W:World}{b:Nat}{c:Array Value}{e:TypeId}{fz:Nat×Nat}(h:W.heap[b]? = some (.cells c e fz))(j:Nat):W.cell? ⟨b,j,none⟩=c[j]?:=by
 unfold World.cell?;rw[show W.heap[(⟨b,j,none⟩:Addr).block]? = _ from h];rfl
theorem qaE {W:World}{b:Nat}{c:Array Value}{e:TypeId}(h:W.heap[b]? = some (.cells c e (0,0)))(j:Nat):W.frozen? ⟨b,j,none⟩=false:=by
 unfold World.frozen?;rw[show W.heap[(⟨b,j,none⟩:Addr).block]? = _ from h];simp
theorem eight (w:World) (o0 o1 o2 o3 o4 o5 o6 o7:Obj) (W:World) (h:((((((((w.alloc o0).alloc o1).alloc o2).alloc o3).alloc o4).alloc o5).alloc o6).alloc o7)=W) :
  W.heap.size=w.heap.size+8∧W.heap[w.heap.size]? = some o0∧W.heap[w.heap.size+1]? = some o1∧W.heap[w.heap.size+3]? = some o3∧W.heap[w.heap.size+4]? = some o4∧W.heap[w.heap.size+5]? = some o5∧W.heap[w.heap.size+6]? = some o6∧W.heap[w.heap.size+7]? = some o7:=by
 have hp:W.heap=(((((((w.heap.push o0).push o1).push o2).push o3).push o4).push o5).push o6).push o7:=by rw[← h];rfl
 rw[hp]
 refine⟨by simp,?_,?_,?_,?_,?_,?_,?_⟩
 all_goals (simp only[Array.getElem?_push,Array.size_push];repeat (first|rfl|rw[if_pos (by omega)]|rw[if_neg (by omega)]|rw[if_pos trivial]))
theorem res129 (tmps:Array Value) (w:World) (b:Nat) (x0 x1:Bool) (x2:Int) (v e:Value) (h6:tmps.getD 6 undef=.pointer (some ⟨b,0,none⟩)) (h7:tmps.getD 7 undef=v) (h8:tmps.getD 8 undef=e)
  (hc:w.heap[b]? = some (.cells #[.bool x0,.bool x1,.int .i64 x2] 150 (0,0))):(results Tryz.f129 tmps).run Tryz.prog w=.ok (.tuple #[.agg #[.bool x0,.bool x1,.int .i64 x2],v,e]) w:=by
 have h:Tryz.f129.results=#[.cell 6 150,.tmp 7,.tmp 8]:=rfl
 have c0:w.cell? ⟨b,0,none⟩=some (.bool x0):=by unfold World.cell?;rw[show w.heap[(⟨b,0,none⟩:Addr).block]? = _ from hc];rfl
 have c1:w.cell? ⟨b,1,none⟩=some (.bool x1):=by unfold World.cell?;rw[show w.heap[(⟨b,1,none⟩:Addr).block]? = _ from hc];rfl
 have c2:w.cell? ⟨b,2,none⟩=some (.int .i64 x2):=by unfold World.cell?;rw[show w.heap[(⟨b,2,none⟩:Addr).block]? = _ from hc];rfl
 have hl:(loadVar 150 ⟨b,0,none⟩).run Tryz.prog w=.ok (.agg #[.bool x0,.bool x1,.int .i64 x2]) w:=by
  simp[loadVar,go_sem,c0,c1,c2]
 have g6:tmps[6]?.getD undef=.pointer (some ⟨b,0,none⟩):=by simpa using h6
 have g7:tmps[7]?.getD undef=v:=by simpa using h7
 have g8:tmps[8]?.getD undef=e:=by simpa using h8
 simp only[results,h]
 simp[Sem.run_bind,Result.andThen,g6,g7,g8,asAddr,hl]
theorem askE_ok {u r x:Bool}{s hold:Int}{p:Eng.Pls}(c:askE s 1 hold=0)(hp:qeo ⟨u,r,s⟩ x hold=p):qfC ⟨u,r,s⟩ x hold=some (0,p):=by
 unfold askE at c
 unfold qfC
 dsimp only
 split at c
 ·
  cases c
 ·
  split at c
  ·
   cases c
  ·
   split at c
   ·
    cases c
   ·
    rename_i h1 _ h2
    rw[show (decide (s<0)||decide (s > 1048576))=false by simp;omega,show (decide (hold<1)||decide (hold > 1048576))=false by simp;omega,hp];rfl
theorem askE_no {u r x:Bool}{s hold er:Int}(h:askE s 1 hold=er)(c:¬ er=0):qfC ⟨u,r,s⟩ x hold=some (er,⟨false,false,0⟩):=by
 subst h
 unfold askE at c ⊢
 unfold qfC
 dsimp only
 by_cases h1:s<0∨1048576<s
 ·
  rw[if_pos h1,show (decide (s<0)||decide (s > 1048576))=true by simp;omega];rfl
 ·
  rw[if_neg h1] at c ⊢
  rw[if_neg (by omega)] at c ⊢
  rw[show (decide (s<0)||decide (s > 1048576))=false by simp;omega]
  by_cases h2:hold<1∨1048576<hold
  ·
   rw[if_pos h2,show (decide (hold<1)||decide (hold > 1048576))=true by simp;omega];rfl
  ·
   rw[if_neg h2] at c;exact absurd rfl c
theorem fin129 {F:Fence} {n D b:Nat} {T:Array Value} {W:World} {x0 x1:Bool} {x2:Int} {v e:Value} {R:Ending→World→Prop} (h6:T.getD 6 undef=.pointer (some ⟨b,0,none⟩)) (h7:T.getD 7 undef=v) (h8:T.getD 8 undef=e) (hc:W.heap[b]? = some (.cells #[.bool x0,.bool x1,.int .i64 x2] 150 (0,0)))
  (hD:W.heap[D]? = some (.deferred (some []))) (hR:R (.returned (.tuple #[.agg #[.bool x0,.bool x1,.int .i64 x2],v,e])) (W.putObj D (.deferred none))):bodyPostM F n Tryz.prog Tryz.f129 R Exit.ret {tmps:=T,defers:=[{target:=Target.collected D,args:=#[]}]} W:=by
 have ne:b≠D:=fun e=>by rw[e,hD] at hc;cases hc
 exact⟨by simp,.inl ⟨_,_,rfl,run_takeDeferred hD,_,res129 T _ b x0 x1 x2 v e h6 h7 h8 ((World.putObj_heap_other ne).trans hc),hR⟩⟩
theorem fin129' {F:Fence} {n b:Nat} {T:Array Value} {W:World} {x0 x1:Bool} {x2:Int} {v e:Value} {R:Ending→World→Prop} (h6:T.getD 6 undef=.pointer (some ⟨b,0,none⟩)) (h7:T.getD 7 undef=v) (h8:T.getD 8 undef=e) (hc:W.heap[b]? = some (.cells #[.bool x0,.bool x1,.int .i64 x2] 150 (0,0)))
  (hR:R (.returned (.tuple #[.agg #[.bool x0,.bool x1,.int .i64 x2],v,e])) W):bodyPostM F n Tryz.prog Tryz.f129 R Exit.ret {tmps:=T,defers:=[]} W :=
 ⟨_,res129 T _ b x0 x1 x2 v e h6 h7 h8 hc,hR⟩
set_option maxRecDepth 100000 in
set_option maxHeartbeats 2000000 in
theorem rnIw (F:Fence) (n:Nat) (h:F.fn 129) (h1:F.fn 184) (h2:F.fn 185) (h3:F.fn 214) (hro:F.round=none) (hn:3≤n) (b off cap:Nat) (u r:Bool) (s:Int) (x:Bool) (hold:Int) (w:World)
  (hb:b<w.heap.size) (hx:w.cell? ⟨b,off,none⟩=some (.bool x)) :
  CallsIn F n Tryz.prog 129 #[.agg #[.bool u,.bool r,.int .i64 s],.slice (some ⟨b,off,none⟩) 1 cap,.int .i64 hold] w fun e W'=>∃ v p er,e=.returned (.tuple #[plsV p,v,.int .i64 er])∧qfC ⟨u,r,s⟩ x hold=some (er,p)∧Below w.heap.size w W':=by
 have hn1:1≤n:=by omega
 have hms:=mk_bool
 refine callsIn_of_wp_marks Tryz.func129 rfl h ?_ hro
 simp only[Tryz.ntmps129,List.size_toArray,List.length_cons,List.length_nil,Nat.reduceAdd,Nat.reduceSub,Array.replicate_succ,Array.replicate_zero,List.push_toArray,List.append_toArray,List.nil_append,List.cons_append]
 by_cases c:askE s 1 hold=0
 ·
  gi_wp2_with (first|(gi_at_call 184;refine(q6X F (n-1) h1 hro _ _ _ _ _ _ c _).mono ?_;rintro e w' ⟨rfl,rfl⟩)|(gi_at_call 185;refine(qxo F (n-1) h2 hro _ _ _ _ _ _ _ _).mono ?_;rintro e w' ⟨rfl,rfl⟩))
  generalize hw8:((((((((w.alloc (Obj.cells #[Value.bool u,Value.bool r,Value.int IntKind.i64 s] 150)).alloc (Obj.cells #[Value.bool false,Value.bool false,Value.int IntKind.i64 0] 150)).alloc (Obj.cells #[Value.bool u,Value.bool r,Value.int IntKind.i64 s] 150)).alloc (Obj.cells #[Value.bool false] 4)).alloc (Obj.cells #[Value.slice (some {block:=w.heap.size+1+1+1,off:=0}) 0 1] 226)).alloc (Obj.cells #[Value.bool u,Value.bool r,Value.int IntKind.i64 s] 150)).alloc (Obj.cells #[Value.slice (some {block:=b,off:=off}) 1 cap] 226)).alloc (Obj.cells #[Value.int IntKind.i64 hold] 3))=w8
  obtain⟨hz8,k0,k1,k3,k4,k5,k6,k7⟩:=eight _ _ _ _ _ _ _ _ _ _ hw8
  have b8:Below w.heap.size w w8:=by
   rw[← hw8]
   exact((((((((Below.refl _ w).alloc (Nat.le_refl _) _).alloc (by simp) _).alloc (by simp;omega) _).alloc (by simp;omega) _).alloc (by simp;omega) _).alloc (by simp;omega) _).alloc (by simp;omega) _).alloc (by simp;omega) _
  clear hw8
  obtain⟨p,hp⟩:∃ p,qeo ⟨u,r,s⟩ x hold=p:=⟨_,rfl⟩
  refine qjd hro hn1 (gf:=214) (lb:=#[.pointer (some ⟨w.heap.size+6,0,none⟩),.pointer (some ⟨w.heap.size+5,0,none⟩),.pointer (some ⟨w.heap.size+7,0,none⟩)]) rfl h3 (enters_of Tryz.func214 (by kernel_rfl) rfl)
   #[plsV p] rfl (w.heap.size+5) (by omega) ?hit (fun W=>PF w W u r s (.slice (some ⟨w.heap.size+3,0,none⟩) 0 1)) (fun W=>PF w W p.upf p.rawf p.sincef (.slice (some ⟨w.heap.size+3,0,none⟩) 1 1)) ?hJ ?hK ?hJB ?h0
   (fun a' W=>∃ m,w.heap.size+8≤m∧W.heap[m]? = some (.cells #[.bool p.upf,.bool p.rawf,.int .i64 p.sincef] 150 (0,0))∧PF w W u r s (.slice (some ⟨w.heap.size+3,0,none⟩) 0 1)∧a'={tmps:=#[Value.agg #[Value.bool u,Value.bool r,Value.int IntKind.i64 s],Value.slice (some {block:=b,off:=off}) 1 cap,Value.int IntKind.i64 hold,Value.pointer (some {block:=w.heap.size,off:=0}),undef,undef,Value.pointer (some {block:=w.heap.size+1,off:=0}),Value.slice none 0 0,Value.int IntKind.i64 0,Value.int IntKind.i64 0,Value.pointer (some {block:=w.heap.size+4,off:=0}),.pointer (some ⟨m,0,none⟩),Value.agg #[Value.bool u,Value.bool r,Value.int IntKind.i64 s],Value.slice (some {block:=b,off:=off}) 1 cap,Value.int IntKind.i64 1,Value.int IntKind.i64 hold,Value.int IntKind.i64 0,Value.int IntKind.i64 0,Value.bool false,undef,undef,Value.slice (some {block:=b,off:=off}) 1 cap,Value.int IntKind.i64 1,Value.slice (some {block:=w.heap.size+3,off:=0}) 0 1,Value.agg #[Value.bool u,Value.bool r,Value.int IntKind.i64 s],Value.slice (some {block:=b,off:=off}) 1 cap,Value.int IntKind.i64 hold,Value.func (Fn.func 214) #[] #[Value.pointer (some {block:=w.heap.size+6,off:=0}),Value.pointer (some {block:=w.heap.size+5,off:=0}),Value.pointer (some {block:=w.heap.size+7,off:=0})],.agg #[.bool p.upf,.bool p.rawf,.int .i64 p.sincef],undef,undef,undef,undef,undef,undef,undef,undef],defers:=[]}) ?hAx ?assign ?body ?done
  case hit =>
   intro l W1 R hB hY
   have e:∀ k,k<w8.heap.size→W1.heap[k]? = w8.heap[k]?:=hB.block
   have q5:=(e _ (by omega)).trans k5
   exact q4V F (n-1) h3 hro (by omega) l (w.heap.size+6) (w.heap.size+5) (w.heap.size+7) b off cap u r s x hold W1 (cell_at ((e _ (by omega)).trans k6) 0) (((b8.trans (hB.mono (by omega))).cell (p:=⟨b,off,none⟩) hb).trans hx)
    (cell_at q5 0) (cell_at q5 1) (cell_at q5 2) (fun j=>qaE q5 j) (cell_at ((e _ (by omega)).trans k7) 0) (by omega) (by omega) (by omega) R (by rw[hp];exact hY)
  case hJ=>exact fun _ W W' row h g hr=>h.keep g (fun k e=>by have:=(hr k e).1;omega)
  case hK=>exact fun _ W W' row h g hr=>h.keep g (fun k e=>by have:=(hr k e).1;omega)
  case hJB=>exact fun W W' h g=>h.keep g (fun k e=>by cases e;omega)
  case h0=>exact⟨k0,k1,⟨_,k3⟩,k4,b8⟩
  case hAx =>
   rintro a' _ W W' row ⟨m,hm,h1,h2,rfl⟩ g hr
   refine⟨m,hm,(g.block m (Array.getElem?_eq_some_iff.1 h1).1 (fun e=>?_)).trans h1,h2.keep g (fun k e=>by have:=(hr k e).1;omega),rfl⟩
   obtain⟨o,ho,hc⟩:=(hr m e.symm).2
   rw[h1] at ho;cases ho;cases hc
  case assign =>
   intro l W k hJ hz hk
   have hWz:=hJ.b.size
   simp only[plsV]
   gi_wp2
   exact hk _ _ ((KeepsOthers.alloc W _).from _) ⟨W.heap.size,by omega,World.alloc_heap_new W _,hJ.keep (World.grownBy_alloc W _ none) (fun k e=>by cases e),rfl⟩
  case body =>
   rintro l a' W ⟨m,hm,h1,h2,rfl⟩
   obtain⟨x3,c3⟩:=h2.c3
   have m0:=cell_at h1 0
   have m1:=cell_at h1 1
   have m2:=cell_at h1 2
   have g0:=cell_at h2.c0 0
   have g1:=cell_at h2.c0 1
   have g2:=cell_at h2.c0 2
   have f0:=fun j=>qaE h2.c0 j
   have g4:=cell_at h2.c4 0
   have f4:=fun j=>qaE h2.c4 j
   have ne1:w.heap.size≠m:=by omega
   have ne2:w.heap.size≠w.heap.size+4:=by omega
   have hWz:=h2.b.size
   obtain⟨i0,hi,hz0,hz1,hz2⟩:=info_parts info4
   simp only[List.getElem?_toArray,List.getElem?_cons_zero,List.getElem?_cons_succ] at m0 m1 m2 g0 g1 g2 g4
   have s3:(((W.setCell ⟨w.heap.size,0,none⟩ (.bool p.upf)).setCell ⟨w.heap.size,1,none⟩ (.bool p.rawf)).setCell ⟨w.heap.size,2,none⟩ (.int .i64 p.sincef)).heap.size=W.heap.size:=by simp[World.setCell]
   have hz8W:w.heap.size+8≤W.heap.size:=by have:=(Array.getElem?_eq_some_iff.1 h1).1;omega
   have cX:((((W.setCell ⟨w.heap.size,0,none⟩ (.bool p.upf)).setCell ⟨w.heap.size,1,none⟩ (.bool p.rawf)).setCell ⟨w.heap.size,2,none⟩ (.int .i64 p.sincef)).alloc (.cells #[.bool p.upf] 4)).heap[w.heap.size+3]? = some (.cells #[.bool x3] 4 (0,0)) :=
    (Below.heap_alloc _ _ _ (by rw[s3];exact(Array.getElem?_eq_some_iff.1 c3).1)).trans (((Below.heap_setCell _ _ _ _ (by show w.heap.size+3≠w.heap.size;omega)).trans ((Below.heap_setCell _ _ _ _ (by show w.heap.size+3≠w.heap.size;omega)).trans (Below.heap_setCell _ _ _ _ (by show w.heap.size+3≠w.heap.size;omega)))).trans c3)
   gi_wp2_with (gi_at_builtin;go_loud (refine wpListIn_append_fits _ rfl _ _ 226 rfl w.heap.size 4 i0 1 Tryz.underlying226 hi hz1 (w.heap.size+3) 0 1 [] rfl (own3 cX (by omega)) ⟨W.heap.size,0,none⟩ 1 1 [.bool p.upf] rfl rfl (by rw[← s3];exact cell_one_new _ _ _) (by simp[Value.oneCell']) (by omega) ?_;intro w1 hown' hgrow;have re:=run_end (v':=.slice (some ⟨w.heap.size+3,0,none⟩) 1 1) h2 c3 hz8W hgrow hown';obtain⟨q4,kf,pf⟩:=re;have g4':=cell_at q4 0;have f4':=fun j=>qaE q4 j;simp only[List.getElem?_toArray,List.getElem?_cons_zero,List.getElem?_cons_succ] at g4'))
   rw[hz8]
   exact⟨kf,pf⟩
  case done =>
   intro D W hD hKW hDW
   have g0:=cell_at hKW.c0 0
   have g1:=cell_at hKW.c0 1
   have g2:=cell_at hKW.c0 2
   have e0:=cell_at hKW.c1 0
   have e1:=cell_at hKW.c1 1
   have e2:=cell_at hKW.c1 2
   have f1:=fun j=>qaE hKW.c1 j
   have g4:=cell_at hKW.c4 0
   simp only[List.getElem?_toArray,List.getElem?_cons_zero,List.getElem?_cons_succ] at g0 g1 g2 g4 e0 e1 e2
   gi_wp2
   gi_region
   all_goals (try gi_wp2)
   all_goals (refine fin129 (b:=w.heap.size+1) rfl rfl rfl (set3 hKW.c1) (((Below.heap_setCell _ _ _ _ (by show D≠w.heap.size+1;omega)).trans ((Below.heap_setCell _ _ _ _ (by show D≠w.heap.size+1;omega)).trans (Below.heap_setCell _ _ _ _ (by show D≠w.heap.size+1;omega)))).trans hDW) ⟨_,p,0,rfl,?_,?_⟩)
   all_goals (first|exact askE_ok c hp|exact(((((hKW.b.setCell (p:=⟨w.heap.size+1,0,none⟩) (by show _≤w.heap.size+1;omega) _).setCell (p:=⟨w.heap.size+1,1,none⟩) (by show _≤w.heap.size+1;omega) _).setCell (p:=⟨w.heap.size+1,2,none⟩) (by show _≤w.heap.size+1;omega) _).drew).grown (grownBy_putObj' _ D _) (by show _≤(((W.setCell _ _).setCell _ _).setCell _ _).heap.size;have:=hKW.b.size;simpa [World.setCell] using this) (fun k e=>by cases e;omega)))
 ·
  obtain⟨er,he⟩:∃ er,askE s 1 hold=er:=⟨_,rfl⟩
  rw[he] at c
  gi_wp2_with (first|(gi_at_call 184;refine(q6X F (n-1) h1 hro _ _ _ _ _ _ he _).mono ?_;rintro e w' ⟨rfl,rfl⟩)|(gi_at_call 185;refine(qxo F (n-1) h2 hro _ _ _ _ _ _ _ _).mono ?_;rintro e w' ⟨rfl,rfl⟩))
  refine fin129' (b:=w.heap.size+1) rfl rfl rfl (x0:=false) (x1:=false) (x2:=0) ?_ ⟨_,⟨false,false,0⟩,er,rfl,askE_no he c,?_⟩
  ·
   exact(Below.heap_alloc _ _ _ (by simp)).trans (by have:=World.alloc_heap_new (w.alloc (Obj.cells #[Value.bool u,Value.bool r,Value.int IntKind.i64 s] 150)) (Obj.cells #[Value.bool false,Value.bool false,Value.int IntKind.i64 0] 150);rwa [World.size_alloc] at this)
  ·
   exact(((Below.refl _ w).alloc (Nat.le_refl _) _).alloc (by simp) _).alloc (by simp;omega) _
end Go.Proofs.YtcdppfnjidlknaaGreatDoor
namespace Go.Proofs.YtcdppfnjidlknaaGreatDoor
open Go Go.RowKit Go.Shelf Go.Proofs Go.Eng
set_option maxRecDepth 8000
theorem inv_bool {w:World}{im:Nat→Prop} {ρ:Ids}{v:Value}{b:Bool}(h:Rep w im ρ v (.bool b)):v=.bool b:=by cases h;rfl
theorem arr3 {cs:Array Value}(h:cs.size=3):∃ a b c,cs=#[a,b,c]:=by
 obtain⟨l⟩:=cs
 match l,h with
 | [a,b,c],_=>exact⟨a,b,c,rfl⟩
theorem inv_pls {w:World}{im:Nat→Prop} {ρ:Ids}{v:Value}{u r:Bool}{s:Int}(h:Rep w im ρ v (.agg [.bool u,.bool r,.int .i64 s])):v=.agg #[.bool u,.bool r,.int .i64 s]:=by
 obtain⟨vs,rfl,h1,h2,h3⟩:=h.inv_agg
 obtain⟨a,b,c,rfl⟩:=arr3 h1
 rw[inv_bool (h3 0 a rfl),inv_bool (h3 1 b rfl),((h3 2 c rfl).inv_int).1]
theorem q6Y {w:World} {im:Nat→Prop} {ρ:Ids} {v:Value} {c:Nat} {xs:List (ty c)} (h:Rep w im ρ v (.sl c xs)) :
  (xs=[]∧∃ a,v=.slice a 0 0)∨∃ b off cap,v=.slice (some ⟨b,off,none⟩) xs.length cap∧xs.length≤cap∧im b∧∀ i x,xs[i]? = some x→∀ j,j<szOf c→∃ u,w.cell? ⟨b,off+i*szOf c+j,none⟩=some u∧Rep w im qai u (nth (enc c x) j):=by
 cases h with
 |sl0=>exact .inl ⟨rfl,_,rfl⟩
 |emp=>exact .inl ⟨rfl,_,rfl⟩
 |sl hb hn hcap hm vals hcell hone hrep =>
  subst hn
  refine .inr ⟨_,_,_,rfl,hcap,hb,fun i x hx j hj=>⟨_,hcell i j (List.getElem?_eq_some_iff.1 hx).1 hj,hrep i j x hx hj⟩⟩
theorem inv_one {w:World}{im:Nat→Prop} {ρ:Ids}{v:Value}{x:Bool}(h:Rep w im ρ v (.sl 4 ([x]:List Bool))):∃ b off cap,v=.slice (some ⟨b,off,none⟩) 1 cap∧im b∧w.cell? ⟨b,off,none⟩=some (.bool x):=by
 rcases q6Y h with ⟨h,-⟩|⟨b,off,cap,rfl,-,hb,hc⟩
 ·
  cases h
 ·
  obtain⟨u,h1,h2⟩:=hc 0 x rfl 0 (by decide)
  rw[inv_bool h2] at h1
  exact⟨b,off,cap,rfl,hb,h1⟩
noncomputable def qo9:DSpec:={ro:=true,run:=fun o R args _ k=>match args with
 | [.agg [.bool u,.bool r,.int κ s],.sl c xs,.int κ' h]=>match qcc κ .i64&&qcc κ' .i64,decEq c 4 with
  |true,isTrue hc=>match (hc▸xs:List (ty 4)) with
   | [x]=>o.bind (qfC ⟨u,r,s⟩ x h) fun q=>k (.tup [.agg [.bool q.2.upf,.bool q.2.rawf,.int .i64 q.2.sincef],.dead,.int .i64 q.1]) [] []
   |_=>none
  |_,_=>none
 |_=>none}
theorem q6Z {u r x:Bool}{s h er:Int}{p:Pls}(e:qfC ⟨u,r,s⟩ x h=some (er,p)):kwf .i64 er∧kwf .i64 p.sincef:=by
 have k:∀ n:Int,-9223372036854775808≤n∧n≤9223372036854775807→kwf .i64 n:=fun n h=>h
 unfold qfC at e
 dsimp only at e
 cases h1:(decide (s<0)||decide (s > 1048576))<;>rw[h1] at e
 ·
  cases h2:(decide (h<1)||decide (h > 1048576))<;>rw[h2] at e
  ·
   simp only[cond_false,Option.some.injEq,Prod.mk.injEq] at e
   obtain⟨rfl,rfl⟩:=e
   refine⟨k 0 (by omega),k _ ?_⟩
   unfold qeo
   dsimp only
   have:=IntKind.wrap_i64 ((bif x != r then 0 else s)+1)
   rw[this];omega
  ·
   simp only[cond_false,cond_true,Option.some.injEq,Prod.mk.injEq] at e
   obtain⟨rfl,rfl⟩:=e
   exact⟨k 2 (by omega),k 0 (by omega)⟩
 ·
  simp only[cond_true,Option.some.injEq,Prod.mk.injEq] at e
  obtain⟨rfl,rfl⟩:=e
  exact⟨k 8 (by omega),k 0 (by omega)⟩
theorem q3i {w:World}{im:Nat→Prop} {ρ:Ids}{a b c:Value}{x y z:AV}(h1:Rep w im ρ a x)(h2:Rep w im ρ b y)(h3:Rep w im ρ c z):Rep w im ρ (.tuple #[a,b,c]) (.tup [x,y,z]) :=
 .tup rfl fun j v h=>by
  rcases j with _|_|_|j
  ·
   cases h;exact h1
  ·
   cases h;exact h2
  ·
   cases h;exact h3
  ·
   simp at h
theorem rep_agg3 {w:World}{im:Nat→Prop} {ρ:Ids}{a b c:Value}{x y z:AV}(o1:a.oneCell'=true)(o2:b.oneCell'=true)(o3:c.oneCell'=true)(h1:Rep w im ρ a x)(h2:Rep w im ρ b y)(h3:Rep w im ρ c z):Rep w im ρ (.agg #[a,b,c]) (.agg [x,y,z]):=by
 refine .agg rfl (fun j v h=>?_) fun j v h=>?_
 ·
  rcases j with _|_|_|j
  ·
   cases h;exact o1
  ·
   cases h;exact o2
  ·
   cases h;exact o3
  ·
   simp at h
 ·
  rcases j with _|_|_|j
  ·
   cases h;exact h1
  ·
   cases h;exact h2
  ·
   cases h;exact h3
  ·
   simp at h
theorem q0I:DH Tryz.prog 129 qo9:=by
 refine⟨qcO.h ?_ rfl⟩
 intro w im vals args k o a next Q him hKc hlen hrep hrun hnext
 obtain⟨R,K,r,hrun,hK⟩:=hrun
 unfold qo9 at hrun
 dsimp only at hrun
 split at hrun
 ·
  rename_i u r0 κ s c xs κ' h
  split at hrun
  ·
   rename_i hc hk _
   subst hc
   simp only[Bool.and_eq_true] at hk
   obtain⟨k1,k2⟩:=hk
   cases qaI k1
   cases qaI k2
   split at hrun
   ·
    rename_i x hx
    obtain⟨⟨er,p⟩,h1,h2⟩:=qc4 hrun
    obtain⟨v0,v1,v2,rfl⟩:∃ a b c,vals=#[a,b,c]:=arr3 hlen
    obtain rfl:=inv_pls (hrep 0 v0 rfl)
    have hx':xs=([x]:List Bool):=hx
    subst hx'
    obtain⟨b,off,cap,rfl,hb,hcell⟩:=inv_one (hrep 1 v1 rfl)
    obtain⟨rfl,-⟩:=(hrep 2 v2 rfl).inv_int
    rw[Tryz.call129]
    refine qc5 (callsIn_wide.1 (rnIw Fence.wide 3 trivial trivial trivial trivial rfl (by omega) b off cap u r0 s x h w (him b hb) hcell)) fun e w' he=>?_
    obtain⟨v,p',er',rfl,hp,hB⟩:=he
    rw[h1] at hp
    simp only[Option.some.injEq,Prod.mk.injEq] at hp
    obtain⟨rfl,rfl⟩:=hp
    have hin:=q6Z h1
    exact hnext _ _ (fun b=>(true:Bool)=false∧im b) qai _ [] (hK _ _ _ h2) {below:=hB,imold:=fun e b hb=>⟨e,hb⟩,imnew:=fun b hb=>.inl hb,dom:=fun _ _=>rfl,blk:=fun j b hj=>by simp at hj,inj:=fun _ _ _ _ _ hi=>by simp[qai] at hi,notim:=fun _ _ _ hi=>by simp[qai] at hi,fresh:=fun _ _ _ hi=>by simp[qai] at hi,rep:=q3i (rep_agg3 rfl rfl rfl .bool .bool (.int hin.2)) .dead (.int hin.1)}
   ·
    cases hrun
  ·
   cases hrun
 ·
  cases hrun
end Go.Proofs.YtcdppfnjidlknaaGreatDoor
