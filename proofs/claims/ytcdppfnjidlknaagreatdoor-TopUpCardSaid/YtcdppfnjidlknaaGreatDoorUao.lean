import Derived.Test.YtcdppfnjidlknaaGreatDoorUan
import Derived.RangeFuncNested
import Derived.RangeFuncCalls
import Derived.OwnWalkIn
import Derived.OrdersIn
namespace Go.Proofs.YtcdppfnjidlknaaGreatDoor
open Go Go.RowKit Go.Shelf Go.Proofs
set_option linter.unusedVariables false
attribute [local go_sem] Oper.semAt_some
def endS (zs:List Int) (k:Nat):Int:=(zs.take k).foldl (fun e n=>wrap64 (e+n)) 0
theorem qnR (zs:List Int) {k:Nat} (h:k<zs.length):endS zs (k+1)=wrap64 (endS zs k+zs[k]?.getD 0):=by
 unfold endS
 rw[List.take_add_one,List.foldl_append,List.getElem?_eq_getElem h]; rfl
abbrev Pt (zs:List Int):Type:={x:Nat×Int // x.1<zs.length}
def up (zs:List Int):(k:Nat)→k≤zs.length→List (Pt zs)
 | 0,_=>[]
 | k+1,h=>up zs k (Nat.le_of_succ_le h)++[⟨(k,endS zs (k+1)),h⟩]
theorem qnS (zs:List Int):∀ (k:Nat) (h:k≤zs.length),(up zs k h).length=k
 | 0,_=>rfl
 | k+1,h=>by rw[up,List.length_append,qnS zs k]; rfl
theorem up_mem (zs:List Int):∀ (k:Nat) (h:k≤zs.length) (x:Pt zs),x∈up zs k h→x.1.2=endS zs (x.1.1+1)∧x.1.1<k
 | 0,_,x,hx=>by simp[up] at hx
 | k+1,h,x,hx=>by
  rw[up,List.mem_append] at hx
  rcases hx with hx | hx
  ·
   have:=up_mem zs k _ x hx; omega
  ·
   simp only[List.mem_singleton] at hx; subst hx; exact⟨rfl,by show k<k+1; omega⟩
theorem q5U (zs:List Int):∀ (k:Nat) (h:k≤zs.length) (j:Nat) (hj:j<k),⟨(j,endS zs (j+1)),by omega⟩∈up zs k h
 | k+1,h,j,hj=>by
  rw[up,List.mem_append]
  by_cases c:j=k
  ·
   subst c; exact .inr (List.mem_singleton.2 rfl)
  ·
   exact .inl (q5U zs k _ j (by omega))
set_option maxRecDepth 100000 in
set_option maxHeartbeats 2000000 in
theorem q5V (F:Fence) (n:Nat) (h:F.fn 215) (hro:F.round=none) (hn:1≤n) (l Bs n₀ b off cap:Nat) (zs:List Int) (hreach:zs.length*8≤140737488351232) (hb:b<n₀) (J Jx:List (Pt zs)→World→Prop)
  (hY:∀ pre x W,J pre W→pre.length<zs.length→YieldAt F (n - 1) Tryz.prog l #[.int .i64 (x.1.1:Int),.int .i64 x.1.2] W fun e W' =>
   (e=.returned (.bool true)∧J (pre++[x]) W'∧Below n₀ W W')∨(e=.returned (.bool false)∧Jx (pre++[x]) W'))
  (W:World) (hBs:W.cell? ⟨Bs,2,none⟩=some (.slice (some ⟨b,off,none⟩) zs.length cap)) (hc:∀ j,j<zs.length→W.cell? ⟨b,off+j,none⟩=some (.int .i64 (zs[j]?.getD 0))) (h0:J [] W) :
  CallsIn F n Tryz.prog 215 #[.func (.yield l) #[] #[],.pointer (some ⟨Bs,0,none⟩)] W fun e W'=>(∃ v,e=.returned v) ∧
   ((∃ ys,ys=up zs zs.length (Nat.le_refl _)∧J ys W')∨(∃ pre,(∃ k h,pre=up zs k h)∧Jx pre W')):=by
 refine callsIn_of_wp Tryz.func215 rfl h ?_ hro
 simp only[Tryz.ntmps215,List.size_toArray,List.length_cons,List.length_nil,Nat.reduceAdd,Nat.reduceSub,Array.replicate_succ,Array.replicate_zero,List.push_toArray,List.append_toArray,List.nil_append,List.cons_append]
 gi_wp2
 gi_loopw [3,9] (fun e i wr=>∃ (k:Nat) (hk:k≤zs.length),e=.int .i64 (endS zs k)∧i=.int .i64 k∧J (up zs k hk) wr∧Below n₀ W wr)
  (fun e i _=>zs.length - (intOf i).toNat)
 case atStart=>exact⟨0,Nat.zero_le _,rfl,rfl,h0,Below.refl _ _⟩
 case round =>
  obtain⟨k,hk,rfl,rfl,hJs,hnx⟩:=hrel
  have hcx:k<zs.length→wr.cell? ⟨b,off+k,none⟩=some (.int .i64 (zs[k]?.getD 0)):=fun h=>(hnx.cell (p:=⟨b,off+k,none⟩) hb).trans (hc k h)
  by_cases hlt:k<zs.length
  ·
   obtain⟨fn,tmps,assign,body,hy,hR⟩:=hY _ ⟨(k,endS zs (k+1)),hlt⟩ wr hJs (by rw[qnS]; exact hlt)
   dsimp only at hy
   have hcx':=hcx hlt
   have he:endS zs (k+1)=wrap64 (endS zs k+zs[k]'hlt):=by rw[qnR zs hlt,List.getElem?_eq_getElem hlt]; rfl
   rw[he] at hy
   gi_wp2
   refine hR.mono ?_
   rintro e W3 (⟨rfl,hJ3,hk3⟩ | ⟨rfl,hJx3⟩)
   ·
    gi_wp2
    go_roundw
    case rel=>exact⟨k+1,hlt,by rw[he],by simp,hJ3,hnx.trans hk3⟩
    case measure=>simp[intOf]; omega
   ·
    gi_wp2
    refine bodyPost_ret (results_none rfl _ _ _) rfl ?_
    exact⟨⟨_,rfl⟩,.inr ⟨_,⟨k+1,hlt,rfl⟩,hJx3⟩⟩
  ·
   obtain rfl:k=zs.length:=by omega
   gi_wp2
   go_end0
   exact⟨⟨_,rfl⟩,.inl ⟨_,rfl,hJs⟩⟩
set_option maxRecDepth 100000 in
set_option maxHeartbeats 1000000 in
theorem q5W (F:Fence) (n:Nat) (h:F.fn 215) (hro:F.round=none) (l Bs cap:Nat) (a:Option Addr) {α:Type} (J:List α→World→Prop) (W:World) (hBs:W.cell? ⟨Bs,2,none⟩=some (.slice a 0 cap)) (h0:J [] W) :
  CallsIn F n Tryz.prog 215 #[.func (.yield l) #[] #[],.pointer (some ⟨Bs,0,none⟩)] W fun e W'=>(∃ v,e=.returned v)∧J [] W':=by
 refine callsIn_of_wp Tryz.func215 rfl h ?_ hro
 simp only[Tryz.ntmps215,List.size_toArray,List.length_cons,List.length_nil,Nat.reduceAdd,Nat.reduceSub,Array.replicate_succ,Array.replicate_zero,List.push_toArray,List.append_toArray,List.nil_append,List.cons_append]
 gi_wp2
 gi_loopw [3,9] (fun e i wr=>e=.int .i64 0∧i=.int .i64 0∧J [] wr) (fun _ _ _=>0)
 case atStart=>exact⟨rfl,rfl,h0⟩
 case round =>
  obtain⟨rfl,rfl,hJs⟩:=hrel
  gi_wp2
  go_end0
  exact⟨⟨_,rfl⟩,hJs⟩
set_option maxHeartbeats 1000000 in
theorem parts_in (F:Fence) (n:Nat) (h:F.fn 193) (hro:F.round=none) (c o:Int) (a:Option Addr) (len cap:Nat) (w:World) :
  CallsIn F n Tryz.prog 193 #[.agg #[.int .i64 c,.int .i64 o,.slice a len cap]] w fun e w'=>e=.returned (.func (.func 215) #[] #[.pointer (some ⟨w.heap.size,0,none⟩)])∧w'=w.alloc (.cells #[.int .i64 c,.int .i64 o,.slice a len cap] 68):=by
 refine callsIn_of_wp Tryz.func193 rfl h ?_ hro
 simp only[Tryz.ntmps193,List.size_toArray,List.length_cons,List.length_nil,Nat.reduceAdd,Nat.reduceSub,Array.replicate_succ,Array.replicate_zero,List.push_toArray,List.append_toArray,List.nil_append,List.cons_append]
 gi_wp2
 go_ret
 exact⟨rfl,rfl⟩
def Ints (n₀:Nat) (W:World) (sv:Value) (zs:List Int):Prop :=
 (∃ a,sv=.slice a 0 0∧zs=[])∨∃ b off cap,sv=.slice (some ⟨b,off,none⟩) zs.length cap∧b<n₀∧∀ j,j<zs.length→W.cell? ⟨b,off+j,none⟩=some (.int .i64 (zs[j]?.getD 0))
theorem Ints.below {n₀:Nat} {A B:World} (h:Below n₀ A B) {sv:Value} {zs:List Int}:Ints n₀ A sv zs→Ints n₀ B sv zs
 | .inl e=>.inl e
 | .inr ⟨b,off,cap,e,hb,hc⟩=>.inr ⟨b,off,cap,e,hb,fun j hj=>(h.cell (p:=⟨b,off+j,none⟩) hb).trans (hc j hj)⟩
theorem qzJ (F:Fence) (n:Nat) (h:F.fn 215) (hro:F.round=none) (hn:1≤n) (Bs n₀:Nat) (sv:Value) (zs:List Int) (hreach:zs.length*8≤140737488351232) (w:World) (hBs:Bs<w.heap.size) (hn₀:n₀≤w.heap.size)
  (hc:w.cell? ⟨Bs,2,none⟩=some sv) (hI:Ints n₀ w sv zs) :
  SeqStopsK F n Tryz.prog 215 #[.pointer (some ⟨Bs,0,none⟩)] (fun x:Pt zs=>#[Value.int .i64 (x.1.1:Int),Value.int .i64 x.1.2]) (Below n₀) (fun ys=>ys=up zs zs.length (Nat.le_refl _))
   (fun pre=>∃ k h,pre=up zs k h) zs.length w:=fun l J Jx W hW _ _ hY h0=>by
 have hc':=(hW.cell (p:=⟨Bs,2,none⟩) hBs).trans hc
 rcases hI.below (hW.mono hn₀) with ⟨a,rfl,rfl⟩ | ⟨b,off,cap,rfl,hb,hcs⟩
 ·
  exact(q5W F n h hro l Bs 0 a J W hc' h0).mono fun e W' ⟨he,hj⟩=>⟨he,.inl ⟨_,rfl,hj⟩⟩
 ·
  exact q5V F n h hro hn l Bs n₀ b off cap zs hreach hb J Jx hY W hc' hcs h0
end Go.Proofs.YtcdppfnjidlknaaGreatDoor
namespace Go
variable {F : Fence} {n : Nat} {P : Program}
theorem q3S {l:Nat} {o:Oper} {a:Act} {w:World} {K:Act→World→Prop} {Q:Exit→Act→World→Prop} (hd:∀ c,o.op≠.defer c) (h:o.wpIn F n P a w K Q):o.wpIn (F.inRound l) n P a w K Q:=by
 unfold Oper.wpIn at h ⊢
 rw[Oper.semAt_plain _ _ _ hd] at h ⊢
 exact h
def qi5 (o:Oper):Bool:=match o.op with
 | .defer _=>false
 | _=>true
theorem que {o:Oper} (h:qi5 o=true) (c:Call):o.op≠.defer c:=by
 intro e
 unfold qi5 at h
 rw[e] at h; cases h
theorem qwr {l:Nat} {ops:Array Oper} {Q:Exit→Act→World→Prop} {i:Nat} {K:Act→World→Prop} {a:Act} {w:World} (hd:ops.all qi5=true) (h:wpOpIn F n P ops Q i K a w):wpOpIn (F.inRound l) n P ops Q i K a w:=by
 unfold wpOpIn at h ⊢
 cases ho:ops[i]? with
 | none=>rw[ho] at h; exact h
 | some o =>
  rw[ho] at h
  dsimp only at h ⊢
  have hn:=que (Array.all_eq_true'.1 hd o (Array.mem_of_getElem? ho))
  split
  ·
   rename_i c
   rw[if_pos c] at h
   exact q3S hn h
  ·
   rename_i c
   rw[if_neg c] at h
   exact h
theorem qnQ {l:Nat} {md:Region.Mode} {ops:Array Oper} {Q:Exit→Act→World→Prop} (hd:ops.all qi5=true):∀ (fuel:Nat) (listed:Array Bool) (a:Act) (w:World),wpAnyIn F n P md ops Q fuel listed a w→wpAnyIn (F.inRound l) n P md ops Q fuel listed a w
 | 0,_,_,_,h=>h
 | fuel+1,listed,a,w,⟨h1,h2⟩=>⟨h1,fun i hi=>qwr hd (wpOpIn_mono (fun a w=>qnQ hd fuel _ a w) (h2 i hi))⟩
theorem qq7 {l id:Nat} {ops:Array Oper} {Q:Exit→Act→World→Prop} {a:Act} {w:World} (hm:P.follows .mixedOrders=true) (hd:ops.all qi5=true)
  (h:wpAnyIn F n P .any ops Q ops.size (Array.replicate ops.size false) a w.drew):(Code.region id ops true).wpIn (F.inRound l) n P Q a w :=
 wpIn_region_any hm (qnQ hd _ _ _ _ h)
end Go
namespace Go.Proofs.YtcdppfnjidlknaaGreatDoor
open Go Go.RowKit Go.Shelf Go.Proofs
set_option linter.unusedVariables false
attribute [local go_sem] Oper.semAt_some cs_off cs_blk cs_twice
theorem five (w:World) (o0 o1 o2 o3 o4:Obj) (W:World) (h:((((w.alloc o0).alloc o1).alloc o2).alloc o3).alloc o4=W) :
  Below w.heap.size w W∧W.heap.size=w.heap.size+5∧W.heap[w.heap.size+1]? = some o1∧W.heap[w.heap.size+2]? = some o2∧W.heap[w.heap.size+3]? = some o3∧W.heap[w.heap.size+4]? = some o4:=by
 have hp:W.heap=((((w.heap.push o0).push o1).push o2).push o3).push o4:=by rw[← h]; rfl
 refine⟨?_,?_⟩
 ·
  rw[← h]; exact(((((Below.refl _ w).alloc (Nat.le_refl _) _).alloc (by simp) _).alloc (by simp; omega) _).alloc (by simp; omega) _).alloc (by simp; omega) _
 rw[hp]
 refine⟨by simp,?_,?_,?_,?_⟩
 all_goals (simp only[Array.getElem?_push,Array.size_push]; repeat (first | rfl | rw[if_pos (by omega)] | rw[if_neg (by omega)] | rw[if_pos trivial]))
theorem qcf {W:World} {b:Nat} {v:Value} {e:TypeId} {fz:Nat×Nat} (h:W.heap[b]? = some (.cells #[v] e fz)):W.cell? ⟨b,0,none⟩=some v:=cell_at h 0
structure AtP (w W:World) (m:Nat) (c o:Int) (sv:Value) (pl v2 v3 v4:Int):Prop where
 p1:W.heap[w.heap.size+1]? = some (.cells #[.int .i64 c,.int .i64 o,sv] 68 (0,0))
 r2:W.heap[w.heap.size+1+1]? = some (.cells #[.int .i64 v2] 3 (0,0))
 r3:W.heap[w.heap.size+1+1+1]? = some (.cells #[.int .i64 v3] 3 (0,0))
 r4:W.heap[w.heap.size+1+1+1+1]? = some (.cells #[.int .i64 v4] 37 (0,0))
 pc:W.heap[m]? = some (.cells #[.int .i64 pl] 3 (0,0))
 b:Below w.heap.size w W
theorem AtP.drew {w W:World} {m:Nat} {c o pl v2 v3 v4:Int} {sv:Value} (h:AtP w W m c o sv pl v2 v3 v4):AtP w W.drew m c o sv pl v2 v3 v4:=⟨h.p1,h.r2,h.r3,h.r4,h.pc,h.b.drew⟩
theorem AtP.own {w W W':World} {m:Nat} {c o pl v2 v3 v4:Int} {sv:Value} {row:Option Nat} (h:AtP w W m c o sv pl v2 v3 v4) (g:W.grownBy W' row) (hr:∀ r,row=some r→w.heap.size≤r∧∃ o:Obj,W.heap[r]? = some o∧o.isCells=false):AtP w W' m c o sv pl v2 v3 v4:=by
 have k:∀ (j:Nat) (cs:Array Value) (e:TypeId),W.heap[j]? = some (.cells cs e (0,0))→W'.heap[j]? = some (.cells cs e (0,0)):=fun j cs e ho =>
  (g.block j (Array.getElem?_eq_some_iff.1 ho).1 (fun e=>by obtain⟨o',h1,h2⟩:=(hr j e.symm).2; rw[ho] at h1; cases h1; cases h2)).trans ho
 exact⟨k _ _ _ h.p1,k _ _ _ h.r2,k _ _ _ h.r3,k _ _ _ h.r4,k _ _ _ h.pc,h.b.grown g h.b.size (fun j e=>(hr j e).1)⟩
def AtNo {zs:List Int} (pl:Int) (pre:List (Pt zs)):Prop:=∀ x∈pre,¬ pl<x.1.2
def AtRet {zs:List Int} (w W:World) (m:Nat) (c o:Int) (sv:Value) (pl:Int) (pre:List (Pt zs)):Prop:=∃ (x:Pt zs) (pre':List (Pt zs)),pre=pre'++[x]∧(∀ y∈pre',¬ pl<y.1.2)∧pl<x.1.2∧AtP w W m c o sv pl x.1.1 (wrap64 (wrap64 (pl - x.1.2)+zs[x.1.1]'x.2)) 0
theorem qws {W:World} {b:Nat} {x y:Value} {e:TypeId} (h:W.heap[b]? = some (.cells #[x] e (0,0))):(W.setCell ⟨b,0,none⟩ y).heap[b]? = some (.cells #[y] e (0,0)):=by
 simp[World.setCell,Array.getElem?_modify,h]
theorem qbU {W:World} {b k:Nat} {y:Value} {o:Obj} (n:k≠b) (h:W.heap[k]? = some o):(W.setCell ⟨b,0,none⟩ y).heap[k]? = some o:=(Below.heap_setCell _ _ _ _ n).trans h
theorem AtP.set {w W:World} {m:Nat} {c o pl v2 v3 v4 u2 u3 u4:Int} {sv:Value} (h:AtP w W m c o sv pl v2 v3 v4) (hm:w.heap.size+1+1+1+1<m):AtP w (((W.setCell ⟨w.heap.size+1+1,0,none⟩ (.int .i64 u2)).setCell ⟨w.heap.size+1+1+1,0,none⟩ (.int .i64 u3)).setCell ⟨w.heap.size+1+1+1+1,0,none⟩ (.int .i64 u4)) m c o sv pl u2 u3 u4 :=
 ⟨qbU (by omega) (qbU (by omega) (qbU (by omega) h.p1)),qbU (by omega) (qbU (by omega) (qws h.r2)),qbU (by omega) (qws (qbU (by omega) h.r3)),qws (qbU (by omega) (qbU (by omega) h.r4)),qbU (by omega) (qbU (by omega) (qbU (by omega) h.pc)),
  ((h.b.setCell (p:=⟨w.heap.size+1+1,0,none⟩) (by show _≤w.heap.size+1+1; omega) _).setCell (p:=⟨w.heap.size+1+1+1,0,none⟩) (by show _≤w.heap.size+1+1+1; omega) _).setCell (p:=⟨w.heap.size+1+1+1+1,0,none⟩) (by show _≤w.heap.size+1+1+1+1; omega) _⟩
theorem wI (n:Int):IntKind.i64.wrap n=wrap64 n:=by unfold wrap64; exact IntKind.wrap_i64 n
theorem qzK (pl:Int) (zs:List Int) (hl:zs.length*8≤140737488351232):∀ (k:Nat),k≤zs.length→(∀ j,j<k→¬ pl<endS zs (j+1))→qa4 pl zs 0 0=qa4 pl (zs.drop k) k (endS zs k)
 | 0,_,_=>by simp[endS]
 | k+1,h,hj=>by
  rw[qzK pl zs hl k (by omega) (fun j hj'=>hj j (by omega)),List.drop_eq_getElem_cons (show k<zs.length by omega),qa4]
  have e:endS zs (k+1)=wrap64 (endS zs k+zs[k]):=by rw[qnR zs (by omega),List.getElem?_eq_getElem (show k<zs.length by omega)]; rfl
  have:=hj k (by omega)
  rw[wI (endS zs k+zs[k]),← e,show decide (pl<endS zs (k+1))=false by simpa using this,cond_false,wI ((k:Int)+1),show wrap64 ((k:Int)+1)=((k+1:Nat):Int) from by unfold wrap64; omega]
theorem q5X (pl:Int) (zs:List Int) (hl:zs.length*8≤140737488351232) (h:∀ j,j<zs.length→¬ pl<endS zs (j+1)):qa4 pl zs 0 0=(0,0,170):=by
 rw[qzK pl zs hl zs.length (Nat.le_refl _) h,List.drop_length]; rfl
theorem scan_at (pl:Int) (zs:List Int) (hl:zs.length*8≤140737488351232) (k:Nat) (hk:k<zs.length) (h:∀ j,j<k→¬ pl<endS zs (j+1)) (g:pl<endS zs (k+1)):qa4 pl zs 0 0=((k:Int),wrap64 (wrap64 (pl - endS zs (k+1))+zs[k]),0):=by
 rw[qzK pl zs hl k (by omega) h,List.drop_eq_getElem_cons hk,qa4]
 have e:endS zs (k+1)=wrap64 (endS zs k+zs[k]):=by rw[qnR zs hk,List.getElem?_eq_getElem hk]; rfl
 rw[wI (endS zs k+zs[k]),← e,show decide (pl<endS zs (k+1))=true by simpa using g,cond_true,wI,wI]
theorem ex146 {w w':World} {e0 u2 u3 u4:Value} {x2 x3 x4:Value} (q2:w'.heap[w.heap.size+1+1]? = some (.cells #[x2] 3 (0,0))) (q3:w'.heap[w.heap.size+1+1+1]? = some (.cells #[x3] 3 (0,0))) (q4:w'.heap[w.heap.size+1+1+1+1]? = some (.cells #[x4] 37 (0,0))) (bw:Below w.heap.size w w') :
  ((((w'.setCell ⟨w.heap.size+1+1+1+1,0,none⟩ e0).setCell ⟨w.heap.size+1+1,0,none⟩ u2).setCell ⟨w.heap.size+1+1+1,0,none⟩ u3).setCell ⟨w.heap.size+1+1+1+1,0,none⟩ u4).cell? ⟨w.heap.size+1+1,0,none⟩=some u2 ∧
  ((((w'.setCell ⟨w.heap.size+1+1+1+1,0,none⟩ e0).setCell ⟨w.heap.size+1+1,0,none⟩ u2).setCell ⟨w.heap.size+1+1+1,0,none⟩ u3).setCell ⟨w.heap.size+1+1+1+1,0,none⟩ u4).cell? ⟨w.heap.size+1+1+1,0,none⟩=some u3 ∧
  ((((w'.setCell ⟨w.heap.size+1+1+1+1,0,none⟩ e0).setCell ⟨w.heap.size+1+1,0,none⟩ u2).setCell ⟨w.heap.size+1+1+1,0,none⟩ u3).setCell ⟨w.heap.size+1+1+1+1,0,none⟩ u4).cell? ⟨w.heap.size+1+1+1+1,0,none⟩=some u4 ∧
  Below w.heap.size w ((((w'.setCell ⟨w.heap.size+1+1+1+1,0,none⟩ e0).setCell ⟨w.heap.size+1+1,0,none⟩ u2).setCell ⟨w.heap.size+1+1+1,0,none⟩ u3).setCell ⟨w.heap.size+1+1+1+1,0,none⟩ u4) :=
 ⟨qcf (qbU (by omega) (qbU (by omega) (qws (qbU (by omega) q2)))),qcf (qbU (by omega) (qws (qbU (by omega) (qbU (by omega) q3)))),qcf (qws (qbU (by omega) (qbU (by omega) (qws q4)))),
  (((bw.setCell (p:=⟨w.heap.size+1+1+1+1,0,none⟩) (by show _≤w.heap.size+1+1+1+1; omega) _).setCell (p:=⟨w.heap.size+1+1,0,none⟩) (by show _≤w.heap.size+1+1; omega) _).setCell (p:=⟨w.heap.size+1+1+1,0,none⟩) (by show _≤w.heap.size+1+1+1; omega) _).setCell (p:=⟨w.heap.size+1+1+1+1,0,none⟩) (by show _≤w.heap.size+1+1+1+1; omega) _⟩
theorem res146 (T:Array Value) (w:World) (b2 b3 b4:Nat) (x2 x3 x4:Int) (h6:T.getD 6 undef=.pointer (some ⟨b2,0,none⟩)) (h7:T.getD 7 undef=.pointer (some ⟨b3,0,none⟩)) (h8:T.getD 8 undef=.pointer (some ⟨b4,0,none⟩))
  (c0:w.cell? ⟨b2,0,none⟩=some (.int .i64 x2)) (c1:w.cell? ⟨b3,0,none⟩=some (.int .i64 x3)) (c2:w.cell? ⟨b4,0,none⟩=some (.int .i64 x4)):(results Tryz.f146 T).run Tryz.prog w=.ok (.tuple #[.int .i64 x2,.int .i64 x3,.int .i64 x4]) w:=by
 have h:Tryz.f146.results=#[.cell 6 3,.cell 7 3,.cell 8 37]:=rfl
 have l2:(loadVar 3 ⟨b2,0,none⟩).run Tryz.prog w=.ok (.int .i64 x2) w:=by simp[loadVar,go_sem,c0]
 have l3:(loadVar 3 ⟨b3,0,none⟩).run Tryz.prog w=.ok (.int .i64 x3) w:=by simp[loadVar,go_sem,c1]
 have l4:(loadVar 37 ⟨b4,0,none⟩).run Tryz.prog w=.ok (.int .i64 x4) w:=by simp[loadVar,go_sem,c2]
 have g6:T[6]?.getD undef=.pointer (some ⟨b2,0,none⟩):=by simpa using h6
 have g7:T[7]?.getD undef=.pointer (some ⟨b3,0,none⟩):=by simpa using h7
 have g8:T[8]?.getD undef=.pointer (some ⟨b4,0,none⟩):=by simpa using h8
 simp only[results,h]
 simp[Result.andThen,g6,g7,g8,asAddr,l2,l3,l4]
theorem fin146 {F:Fence} {n D m:Nat} {T:Array Value} {w W:World} {c o pl x2 x3 x4:Int} {sv:Value} {R:Ending→World→Prop} (hA:AtP w W m c o sv pl x2 x3 x4) (h6:T.getD 6 undef=.pointer (some ⟨w.heap.size+1+1,0,none⟩)) (h7:T.getD 7 undef=.pointer (some ⟨w.heap.size+1+1+1,0,none⟩)) (h8:T.getD 8 undef=.pointer (some ⟨w.heap.size+1+1+1+1,0,none⟩))
  (hD:W.heap[D]? = some (.deferred (some []))) (hR:Below w.heap.size w (W.putObj D (.deferred none))→R (.returned (.tuple #[.int .i64 x2,.int .i64 x3,.int .i64 x4])) (W.putObj D (.deferred none))) (hDw:w.heap.size≤D):bodyPostM F n Tryz.prog Tryz.f146 R Exit.ret {tmps:=T,defers:=[{target:=Target.collected D,args:=#[]}]} W:=by
 have hB:=hA.own (grownBy_putObj' W D (.deferred none)) (fun r e=>by cases e; exact⟨hDw,_,hD,rfl⟩)
 exact⟨by simp,.inl ⟨_,_,rfl,run_takeDeferred hD,_,res146 T _ _ _ _ x2 x3 x4 h6 h7 h8 (qcf hB.r2) (qcf hB.r3) (qcf hB.r4),hR hB.b⟩⟩
theorem quf {F:Fence} {n b2 b3 b4:Nat} {T:Array Value} {W:World} {x2 x3 x4:Int} {R:Ending→World→Prop} (h6:T.getD 6 undef=.pointer (some ⟨b2,0,none⟩)) (h7:T.getD 7 undef=.pointer (some ⟨b3,0,none⟩)) (h8:T.getD 8 undef=.pointer (some ⟨b4,0,none⟩))
  (c0:W.cell? ⟨b2,0,none⟩=some (.int .i64 x2)) (c1:W.cell? ⟨b3,0,none⟩=some (.int .i64 x3)) (c2:W.cell? ⟨b4,0,none⟩=some (.int .i64 x4)) (hR:R (.returned (.tuple #[.int .i64 x2,.int .i64 x3,.int .i64 x4])) W):bodyPostM F n Tryz.prog Tryz.f146 R Exit.ret {tmps:=T,defers:=[]} W :=
 ⟨_,res146 T _ _ _ _ x2 x3 x4 h6 h7 h8 c0 c1 c2,hR⟩
theorem kf146 (W:World) (m:Nat) (a b c:Addr) (x y z:Value):KeepsFrom m W (((W.drew.setCell a x).setCell b y).setCell c z) :=
 ((((KeepsOthers.drew W).trans (KeepsOthers.setCell _ _ _)).trans (KeepsOthers.setCell _ _ _)).trans (KeepsOthers.setCell _ _ _)).from m
theorem atRet_mk {zs:List Int} {w W:World} {m:Nat} {c o:Int} {sv:Value} {pl:Int} {pre:List (Pt zs)} {x:Pt zs} (hp:AtNo pl pre) (cl:pl<x.1.2) (h:AtP w W m c o sv pl x.1.1 (wrap64 (wrap64 (pl - x.1.2)+zs[x.1.1]'x.2)) 0):AtRet w W m c o sv pl (pre++[x]):=⟨x,pre,rfl,hp,cl,h⟩
set_option maxRecDepth 100000 in
set_option maxHeartbeats 4000000 in
theorem at_in (F:Fence) (n:Nat) (h:F.fn 146) (h1:F.fn 192) (h2:F.fn 193) (h3:F.fn 215) (hro:F.round=none) (hn:3≤n) (y0 y1 y2 y3 y4 y5 y6 y7 y8 y9 y10 y11:Value) (c o tick:Int) (sv:Value) (zs:List Int) (isP:Bool) (er:Int) (w:World)
  (hI:Ints w.heap.size w sv zs) (hreach:zs.length*8≤140737488351232)
  (hS:∀ w',Below w.heap.size w w'→CallsIn F (n - 1) Tryz.prog 192 #[.agg #[y0,y1,y2,y3,y4,y5,y6,y7,y8,y9,y10,y11],.agg #[.int .i64 c,.int .i64 o,sv]] w' fun e W'=>e=.returned (.tuple #[.bool isP,.int .i64 er])∧Below w'.heap.size w' W')
  (ra rb re:Int) (hN:qnV (some (isP,er)) ⟨c,o,zs⟩ tick=some (ra,rb,re)) :
  CallsIn F n Tryz.prog 146 #[.agg #[y0,y1,y2,y3,y4,y5,y6,y7,y8,y9,y10,y11],.agg #[.int .i64 c,.int .i64 o,sv],.int .i64 tick] w fun e W'=>e=.returned (.tuple #[.int .i64 ra,.int .i64 rb,.int .i64 re])∧Below w.heap.size w W':=by
 have hn1:1≤n:=by omega
 refine callsIn_of_wp_marks Tryz.func146 rfl h ?_ hro
 simp only[Tryz.ntmps146,List.size_toArray,List.length_cons,List.length_nil,Nat.reduceAdd,Nat.reduceSub,Array.replicate_succ,Array.replicate_zero,List.push_toArray,List.append_toArray,List.nil_append,List.cons_append]
 obtain⟨sa,sl,sc,rfl⟩:∃ a l c,sv=.slice a l c:=by
  rcases hI with ⟨a,rfl,-⟩ | ⟨b,off,cap,rfl,-⟩
  ·
   exact⟨_,_,_,rfl⟩
  ·
   exact⟨_,_,_,rfl⟩
 gi_wp2_with (gi_at_call 192; trivial)
 obtain⟨b5,z5,k1,k2,k3,k4⟩:=five w (.cells #[y0,y1,y2,y3,y4,y5,y6,y7,y8,y9,y10,y11] 29) (.cells #[.int .i64 c,.int .i64 o,.slice sa sl sc] 68) (.cells #[.int .i64 0] 3) (.cells #[.int .i64 0] 3) (.cells #[.int .i64 0] 37) _ rfl
 refine(hS _ b5).mono ?_
 rintro e w' ⟨rfl,hB'⟩
 have q1:=(hB'.block _ (by omega)).trans k1
 have q2:=(hB'.block _ (by omega)).trans k2
 have q3:=(hB'.block _ (by omega)).trans k3
 have q4:=(hB'.block _ (by omega)).trans k4
 have c10:w'.cell? ⟨w.heap.size+1,0,none⟩=some (.int .i64 c):=cell_at q1 0
 have c11:w'.cell? ⟨w.heap.size+1,1,none⟩=some (.int .i64 o):=cell_at q1 1
 have c12:w'.cell? ⟨w.heap.size+1,2,none⟩=some (.slice sa sl sc):=cell_at q1 2
 have c2:=qcf q2
 have c3:=qcf q3
 have c4:=qcf q4
 have f2:=qa6 q2 0
 have f3:=qa6 q3 0
 have f4:=qa6 q4 0
 have z':w.heap.size+5≤w'.heap.size:=by have:=hB'.size; omega
 have bw:=b5.trans (hB'.mono (by omega))
 clear hB' k1 k2 k3 k4 z5 b5
 by_cases ce:er=0
 ·
  subst ce
  cases isP with
  | false =>
   gi_wp2
   obtain⟨h2',h3',h4',hb'⟩:=ex146 (e0:=.int .i64 0) (u2:=.int .i64 0) (u3:=.int .i64 0) (u4:=.int .i64 170) q2 q3 q4 bw
   have hN':ra=0∧rb=0∧re=170:=by
    unfold qnV at hN
    dsimp only at hN
    rw[show ((0:Int) != 0)=false from rfl] at hN
    simp only[cond_false,Bool.not_false,cond_true,Option.some.injEq,Prod.mk.injEq] at hN
    omega
   obtain⟨rfl,rfl,rfl⟩:=hN'
   exact quf rfl rfl rfl h2' h3' h4' ⟨rfl,hb'⟩
  | true =>
   by_cases ct:tick<0∨1073741824<tick
   ·
    have hN':ra=0∧rb=0∧re=2:=by
     unfold qnV at hN
     dsimp only at hN
     rw[show ((0:Int) != 0)=false from rfl,show (decide (tick<0)||decide (tick > 1073741824))=true by simp; omega] at hN
     simp only[cond_false,Bool.not_true,cond_true,Option.some.injEq,Prod.mk.injEq] at hN
     omega
    obtain⟨rfl,rfl,rfl⟩:=hN'
    obtain⟨h2',h3',h4',hb'⟩:=ex146 (e0:=.int .i64 0) (u2:=.int .i64 0) (u3:=.int .i64 0) (u4:=.int .i64 2) q2 q3 q4 bw
    rcases ct with ct | ct
    ·
     gi_wp2
     exact quf rfl rfl rfl h2' h3' h4' ⟨rfl,hb'⟩
    ·
     have ct0:0≤tick:=by omega
     gi_wp2
     exact quf rfl rfl rfl h2' h3' h4' ⟨rfl,hb'⟩
   ·
    have ct1:0≤tick:=by omega
    have ct2:tick≤1073741824:=by omega
    have hN2:c≠0∧qa4 (Int.tmod (wrap64 (wrap64 (tick+c) - o)) c) zs 0 0=(ra,rb,re):=by
     unfold qnV at hN
     dsimp only at hN
     rw[show ((0:Int) != 0)=false from rfl,show (decide (tick<0)||decide (tick > 1073741824))=false by simp; omega] at hN
     simp only[cond_false,Bool.not_true] at hN
     obtain⟨h1,h2⟩:=Eng.req_ok hN
     rw[wI,wI] at h2
     exact⟨of_decide_eq_true h1,Option.some.inj h2⟩
    obtain⟨cz,hSc⟩:=hN2
    have dd:∀ (X:Obj) (j:Nat),((w'.setCell ⟨w.heap.size+1+1+1+1,0,none⟩ (.int .i64 0)).alloc X).cell? ⟨w.heap.size+1,j,none⟩=w'.cell? ⟨w.heap.size+1,j,none⟩:=fun X j=>by
     refine World.cell?_of_block (w:=w') ?_
     exact(Below.heap_alloc _ _ _ (by show w.heap.size+1<_; simp[World.setCell]; omega)).trans (Below.heap_setCell _ _ _ _ (by show w.heap.size+1≠w.heap.size+1+1+1+1; omega))
    have d10:=fun X=>(dd X 0).trans c10
    have d11:=fun X=>(dd X 1).trans c11
    have d12:=fun X=>(dd X 2).trans c12
    clear dd
    gi_wp2_with (gi_at_call 193; refine(parts_in F (n - 1) h2 hro _ _ _ _ _ _).mono ?_; rintro e w2 ⟨rfl,rfl⟩)
    generalize hpl:(wrap64 (wrap64 (tick+c) - o)).tmod c=pl at hSc ⊢
    generalize hw7:((w'.setCell {block:=w.heap.size+1+1+1+1,off:=0} (Value.int IntKind.i64 0)).alloc (Obj.cells #[Value.int IntKind.i64 pl] 3)).alloc (Obj.cells #[Value.int IntKind.i64 c,Value.int IntKind.i64 o,Value.slice sa sl sc] 68)=w7
    have z7:w7.heap.size=w'.heap.size+2:=by rw[← hw7]; simp[World.setCell]
    have sz4:(w'.setCell {block:=w.heap.size+1+1+1+1,off:=0} (Value.int IntKind.i64 0)).heap.size=w'.heap.size:=by simp[World.setCell]
    have a7:AtP w w7 w'.heap.size c o (.slice sa sl sc) pl 0 0 0:=by
     have ol:∀ (k:Nat) (ob:Obj),(w'.setCell {block:=w.heap.size+1+1+1+1,off:=0} (Value.int IntKind.i64 0)).heap[k]? = some ob→w7.heap[k]? = some ob:=fun k ob hk=>by
      have:=(Array.getElem?_eq_some_iff.1 hk).1
      rw[← hw7]
      exact(Below.heap_alloc _ _ _ (by rw[World.size_alloc]; omega)).trans ((Below.heap_alloc _ _ _ this).trans hk)
     refine⟨ol _ _ (qbU (by omega) q1),ol _ _ (qbU (by omega) q2),ol _ _ (qbU (by omega) q3),ol _ _ (qws q4),?_,?_⟩
     ·
      rw[← hw7]
      refine(Below.heap_alloc _ _ _ (by rw[World.size_alloc]; omega)).trans ?_
      have:=World.alloc_heap_new (w'.setCell {block:=w.heap.size+1+1+1+1,off:=0} (Value.int IntKind.i64 0)) (Obj.cells #[Value.int IntKind.i64 pl] 3)
      rwa [sz4] at this
     ·
      rw[← hw7]
      exact((bw.setCell (p:=⟨w.heap.size+1+1+1+1,0,none⟩) (by show _≤w.heap.size+1+1+1+1; omega) _).alloc (by rw[sz4]; omega) _).alloc (by rw[World.size_alloc,sz4]; omega) _
    have c72:w7.cell? ⟨w'.heap.size+1,2,none⟩=some (.slice sa sl sc):=by
     have:=World.alloc_heap_new ((w'.setCell {block:=w.heap.size+1+1+1+1,off:=0} (Value.int IntKind.i64 0)).alloc (Obj.cells #[Value.int IntKind.i64 pl] 3)) (Obj.cells #[Value.int IntKind.i64 c,Value.int IntKind.i64 o,Value.slice sa sl sc] 68)
     rw[World.size_alloc,sz4,hw7] at this
     exact cell_at this 2
    have z7':=a7.b.size
    clear hw7 d10 d11 d12
    refine wpIn_rangeFunc_ownG hro hn1 (gf:=215) (lb:=#[.pointer (some ⟨w'.heap.size+1,0,none⟩)]) rfl h3 (enters_of Tryz.func215 (by kernel_rfl) rfl)
     (qzJ F (n - 1) h3 hro (by omega) (w'.heap.size+1) w.heap.size (.slice sa sl sc) zs hreach w7 (by omega) z7' c72 (hI.below a7.b)) belowK_t (belowK_b z7') (Below.refl _ _) (fun _=>rfl)
     (fun pre W=>AtP w W w'.heap.size c o (.slice sa sl sc) pl 0 0 0∧AtNo pl pre)
     (fun cd pre W=>cd=.ret∧AtRet w W w'.heap.size c o (.slice sa sl sc) pl pre)
     (fun pre W W' row hs g hr=>⟨hs.1.own g (fun r e=>⟨by have:=(hr r e).1; omega,(hr r e).2⟩),hs.2⟩)
     (fun cd pre W W' row hs g hr=>by
      obtain⟨e1,x,pre',e2,e3,e4,e5⟩:=hs
      exact⟨e1,x,pre',e2,e3,e4,e5.own g (fun r e=>⟨by have:=(hr r e).1; omega,(hr r e).2⟩)⟩)
     ⟨a7,fun x hx=>by simp at hx⟩
     (fun x=>{tmps:=#[Value.agg #[y0,y1,y2,y3,y4,y5,y6,y7,y8,y9,y10,y11],Value.agg #[Value.int IntKind.i64 c,Value.int IntKind.i64 o,Value.slice sa sl sc],Value.int IntKind.i64 tick,Value.pointer (some {block:=w.heap.size,off:=0}),Value.pointer (some {block:=w.heap.size+1,off:=0}),undef,Value.pointer (some {block:=w.heap.size+1+1,off:=0}),Value.pointer (some {block:=w.heap.size+1+1+1,off:=0}),Value.pointer (some {block:=w.heap.size+1+1+1+1,off:=0}),Value.bool true,Value.pointer (some {block:=w'.heap.size,off:=0}),.int .i64 (x.1.1:Int),.int .i64 x.1.2,Value.tuple #[Value.bool true,Value.int IntKind.i64 0],Value.agg #[y0,y1,y2,y3,y4,y5,y6,y7,y8,y9,y10,y11],Value.agg #[Value.int IntKind.i64 c,Value.int IntKind.i64 o,Value.slice sa sl sc],Value.tuple #[Value.bool true,Value.int IntKind.i64 0],Value.bool true,Value.int IntKind.i64 0,Value.bool false,Value.int IntKind.i64 0,Value.bool false,undef,Value.bool false,Value.bool true,Value.bool false,Value.bool (decide (1073741824<tick)),Value.int IntKind.i64 tick,Value.bool (decide (tick<0)),Value.int IntKind.i64 tick,Value.bool (decide (1073741824<tick)),Value.int IntKind.i64 tick,Value.pointer (some {block:=w.heap.size+1,off:=0}),Value.int IntKind.i64 c,Value.int IntKind.i64 (wrap64 (tick+c)),Value.pointer (some {block:=w.heap.size+1,off:=1}),Value.int IntKind.i64 o,Value.int IntKind.i64 (wrap64 (wrap64 (tick+c) - o)),Value.pointer (some {block:=w.heap.size+1,off:=0}),Value.int IntKind.i64 c,Value.int IntKind.i64 pl,Value.agg #[Value.int IntKind.i64 c,Value.int IntKind.i64 o,Value.slice sa sl sc],Value.func (Fn.func 215) #[] #[Value.pointer (some {block:=w'.heap.size+1,off:=0})],.int .i64 (x.1.1:Int),.int .i64 x.1.2,undef,undef,undef,undef,undef,undef,undef,undef,undef,undef,undef,undef,undef],defers:=[]}) ?assign ?body ?done ?stop
    case assign =>
     intro l x W K hK
     gi_wp2
     exact hK
    case body =>
     rintro l pre x W ⟨hA,hp⟩ _
     have g1:=qcf hA.pc
     have g2:=qcf hA.r2
     have g3:=qcf hA.r3
     have g4:=qcf hA.r4
     have f2:=qa6 hA.r2 0
     have f3:=qa6 hA.r3 0
     have f4:=qa6 hA.r4 0
     have gp:W.cell? ⟨w.heap.size+1,2,none⟩=some (.slice sa sl sc):=cell_at hA.p1 2
     by_cases cl:pl<x.1.2
     ·
      rcases hI.below hA.b with ⟨ad,e,hz⟩ | ⟨b,off,cap,e,hb,hc⟩
      ·
       subst hz; exact absurd x.2 (Nat.not_lt_zero _)
      ·
       cases e
       have hcx:=hc x.1.1 x.2
       rw[List.getElem?_eq_getElem x.2] at hcx
       have hcx:W.cell? ⟨b,off+x.1.1,none⟩=some (.int .i64 (zs[x.1.1]'x.2)):=hcx
       have hx2:=x.2
       have hmix:Tryz.prog.follows .mixedOrders=true:=by kernel_rfl
       gi_wp2
       refine qq7 hmix (by kernel_rfl) ?_
       simp only[List.size_toArray,List.length_cons,List.length_nil,Nat.reduceAdd,Array.replicate_succ,Array.replicate_zero,List.push_toArray,List.nil_append,List.cons_append]
       repeat' (first
        | exact AllReadyIn.nil
        | (refine AllReadyIn.cons rfl (fun K hK=>?_) ?_)
        | (refine wpAnyIn_done (by decide +kernel) ?_ _)
        | (refine wpAnyIn_take (i:=0) (v:=?_) hro rfl (by decide +kernel) (by decide +kernel) (by decide +kernel) (fun _ _ _ h=>h) ⟨Or.inl ⟨by rfl,?_⟩,fun _=>rfl⟩ ?_; rotate_left; (intro w0; go_simp; (try with_reducible rfl))) | (refine wpAnyIn_take (i:=2) (v:=?_) hro rfl (by decide +kernel) (by decide +kernel) (by decide +kernel) (fun _ _ _ h=>h) ⟨Or.inl ⟨by rfl,?_⟩,fun _=>rfl⟩ ?_; rotate_left; (intro w0; go_simp; (try with_reducible rfl))) | (refine wpAnyIn_take (i:=4) (v:=?_) hro rfl (by decide +kernel) (by decide +kernel) (by decide +kernel) (fun _ _ _ h=>h) ⟨Or.inl ⟨by rfl,?_⟩,fun _=>rfl⟩ ?_; rotate_left; (intro w0; go_simp; (try with_reducible rfl))) | (refine wpAnyIn_take (i:=6) (v:=?_) hro rfl (by decide +kernel) (by decide +kernel) (by decide +kernel) (fun _ _ _ h=>h) ⟨Or.inl ⟨by rfl,?_⟩,fun _=>rfl⟩ ?_; rotate_left; (intro w0; go_simp; (try with_reducible rfl))) | (refine wpAnyIn_take (i:=3) (v:=?_) hro rfl (by decide +kernel) (by decide +kernel) (by decide +kernel) (fun _ _ _ h=>h) ⟨Or.inl ⟨by rfl,?_⟩,fun _=>rfl⟩ ?_; rotate_left; (intro w0; go_simp; (try with_reducible rfl))) | (refine wpAnyIn_take (i:=7) (v:=?_) hro rfl (by decide +kernel) (by decide +kernel) (by decide +kernel) (fun _ _ _ h=>h) ⟨Or.inl ⟨by rfl,?_⟩,fun _=>rfl⟩ ?_; rotate_left; (intro w0; go_simp; (try with_reducible rfl))) | (refine wpAnyIn_take (i:=9) (v:=?_) hro rfl (by decide +kernel) (by decide +kernel) (by decide +kernel) (fun _ _ _ h=>h) ⟨Or.inl ⟨by rfl,?_⟩,fun _=>rfl⟩ ?_; rotate_left; (intro w0; go_simp; (try with_reducible rfl)))
        | (refine wpAnyIn_ready (rs:=[1,5,10]) (by decide +kernel) (by simp) ?_) | (refine wpAnyIn_ready (rs:=[1,5]) (by decide +kernel) (by simp) ?_) | (refine wpAnyIn_ready (rs:=[1,10]) (by decide +kernel) (by simp) ?_) | (refine wpAnyIn_ready (rs:=[5,10]) (by decide +kernel) (by simp) ?_) | (refine wpAnyIn_ready (rs:=[1]) (by decide +kernel) (by simp) ?_) | (refine wpAnyIn_ready (rs:=[5]) (by decide +kernel) (by simp) ?_) | (refine wpAnyIn_ready (rs:=[10]) (by decide +kernel) (by simp) ?_) | (refine wpAnyIn_ready (rs:=[1,8,10]) (by decide +kernel) (by simp) ?_) | (refine wpAnyIn_ready (rs:=[1,8]) (by decide +kernel) (by simp) ?_) | (refine wpAnyIn_ready (rs:=[8,10]) (by decide +kernel) (by simp) ?_) | (refine wpAnyIn_ready (rs:=[8]) (by decide +kernel) (by simp) ?_) | (refine wpAnyIn_ready (rs:=[11]) (by decide +kernel) (by simp) ?_) | (refine wpAnyIn_ready (rs:=[12]) (by decide +kernel) (by simp) ?_)
        | (go_simp; refine hK _ _ ?_; clear hK K))
       all_goals gi_wp2
       all_goals (refine⟨kf146 _ _ _ _ _ _ _ _,?_⟩; simp only[wI]; refine⟨trivial,atRet_mk hp cl ?_⟩; first | exact(hA.set (by omega)).drew | exact hA.drew.set (by omega) | exact(hA.set (u2:=(x.1.1:Int)) (u3:=wrap64 (wrap64 (pl - x.1.2)+zs[x.1.1]'x.2)) (u4:=0) (by omega)).drew | (trace_state; sorry))
     ·
      have cl':x.1.2≤pl:=by omega
      gi_wp2
      refine⟨KeepsFrom.refl _ _,Below.refl _ _,hA,?_⟩
      intro y hm
      rcases List.mem_append.1 hm with hm | hm
      ·
       exact hp _ hm
      ·
       rw[List.mem_singleton.1 hm]; exact Int.not_lt.2 cl'
    case done =>
     rintro D ys W hD rfl ⟨hA,hp⟩ hK
     have g2:=qcf hA.r2
     have g3:=qcf hA.r3
     have g4:=qcf hA.r4
     have f2:=qa6 hA.r2 0
     have f3:=qa6 hA.r3 0
     have f4:=qa6 hA.r4 0
     have hs:=q5X pl zs hreach (fun j hj=>hp _ (q5U zs zs.length (Nat.le_refl _) j hj))
     rw[hSc] at hs
     simp only[Prod.mk.injEq] at hs
     obtain⟨rfl,rfl,rfl⟩:=hs
     gi_wp2
     refine fin146 (hA.set (u2:=0) (u3:=0) (u4:=170) (by omega)) rfl rfl rfl (qbU (by omega) (qbU (by omega) (qbU (by omega) hK))) (fun hb=>⟨rfl,hb⟩) (by omega)
    case stop =>
     rintro D cd pre W hD ⟨k,hk,rfl⟩⟨rfl,x,pre',e2,e3,e4,e5⟩ hK
     have hx:x∈up zs k hk:=by rw[e2]; simp
     obtain⟨hx1,hx2⟩:=up_mem zs k hk x hx
     have hk1:k=pre'.length+1:=by have:=congrArg List.length e2; rw[qnS] at this; simpa using this
     have hs:=scan_at pl zs hreach x.1.1 x.2 (fun j hj=>?_) (by rw[← hx1]; exact e4)
     ·
      rw[hSc] at hs
      rw[hx1] at e5
      simp only[Prod.mk.injEq] at hs
      obtain⟨rfl,rfl,rfl⟩:=hs
      gi_wp2
      exact fin146 e5 rfl rfl rfl hK (fun hb=>⟨rfl,hb⟩) (by omega)
     ·
      have hm:=q5U zs k hk j (by omega)
      rw[e2] at hm
      rcases List.mem_append.1 hm with hm | hm
      ·
       exact e3 _ hm
      ·
       have e:=List.mem_singleton.1 hm
       rw[← e] at hj; exact absurd hj (Nat.lt_irrefl _)
 ·
  have hN':ra=0∧rb=0∧re=er:=by
   unfold qnV at hN
   dsimp only at hN
   rw[show (er != 0)=true from by simpa using ce] at hN
   simp only[cond_true,Option.some.injEq,Prod.mk.injEq] at hN
   omega
  obtain⟨rfl,rfl,rfl⟩:=hN'
  obtain⟨h2',h3',h4',hb'⟩:=ex146 (e0:=.int .i64 re) (u2:=.int .i64 0) (u3:=.int .i64 0) (u4:=.int .i64 re) (w':=w'.drew) q2 q3 q4 bw.drew
  gi_wp2
  gi_region
  all_goals (try gi_wp2)
  all_goals (first | exact quf rfl rfl rfl h2' h3' h4' ⟨rfl,hb'⟩ | fail)
end Go.Proofs.YtcdppfnjidlknaaGreatDoor
namespace Go.Proofs.YtcdppfnjidlknaaGreatDoor
open Go Go.RowKit Go.Shelf Go.Proofs Go.Eng
set_option linter.unusedVariables false
set_option maxRecDepth 8000
theorem q5Y {P:Program} {f:FuncId} {S:DSpec} (h:DH P f S) (hown:S.own=[]) (hc:∀ args w,(callFunc f args).run P w=.ok (.enter f args) w) {w:World} {im:Nat→Prop} {vals:Array Value} {args:List AV} {b:Bool} {e:Int}
  (him:∀ b,im b→b<w.heap.size) (hK:Kc w im) (hsz:vals.size=args.length) (hrep:∀ (j:Nat) (v:Value),vals[j]? = some v→Rep w im qai v (nth args j)) (hrun:∀ (R:Type) (K:KO R),S.run DOps.std R args [] K=K (.tup [.bool b,.int .i64 e]) [] []) :
  Calls P f vals w fun x w'=>x=.returned (.tuple #[.bool b,.int .i64 e])∧kwf .i64 e∧RowKit.Below w.heap.size w w':=by
 have:=h.out.a hown w im vals args (fun r _ _=>r=.tup [.bool b,.int .i64 e]) {(default:Oper) with dst:=some 0} {tmps:=#[undef],defers:=[]}
  (fun a' w'=>a'.tmps[0]? = some (.tuple #[.bool b,.int .i64 e])∧kwf .i64 e∧RowKit.Below w.heap.size w w') (fun _ _ _=>False) him hK hsz hrep ⟨AV,fun x _ _=>some x,_,hrun _ _,fun x _ _ hx=>by cases hx; rfl⟩
  (fun v w' im' ρ' r F hk hres=>by
   subst hk
   obtain⟨vs,rfl,h1,h2⟩:=hres.rep.inv_tup
   obtain⟨x,y,rfl⟩:∃ x y,vs=#[x,y]:=by
    obtain⟨l⟩:=vs
    match l,h1 with
    | [x,y],_=>exact⟨x,y,rfl⟩
   have e1:=(h2 0 x rfl).inv_bool
   obtain⟨e2,e3⟩:=(h2 1 y rfl).inv_int
   rw[e1,e2]
   exact⟨rfl,e3,hres.below⟩)
 rw[hc] at this
 refine qcp (this:Calls P f vals w _) fun e' w' he=>?_
 cases e' with
 | returned v =>
  obtain⟨h1,h2,h3⟩:=he
  have:(#[undef].setIfInBounds 0 v)[0]? = some (Value.tuple #[.bool b,.int .i64 e]):=h1
  simp at this
  exact⟨by rw[this],h2,h3⟩
 | _=>first | exact he.elim | (obtain⟨_,_,h⟩:=he; exact h.elim)
theorem arr12 {cs:Array Value} (h:cs.size=12):∃ a0 a1 a2 a3 a4 a5 a6 a7 a8 a9 a10 a11,cs=#[a0,a1,a2,a3,a4,a5,a6,a7,a8,a9,a10,a11]:=by
 obtain⟨l⟩:=cs
 match l,h with
 | [a0,a1,a2,a3,a4,a5,a6,a7,a8,a9,a10,a11],_=>exact⟨_,_,_,_,_,_,_,_,_,_,_,_,rfl⟩
noncomputable def qzL (G:SiteT→Plan→Int→Option (Int×Int×Int)):DSpec:={ro:=true,run:=fun o R args _ k=>match args with
 | [.agg sc,.agg pc,.int κ t]=>match dec 25 sc,dec 10 pc,qbQ κ .i64 with
  | some s,some p,true=>o.bind (G s p t) fun q=>k (.tup [.int .i64 q.1,.int .i64 q.2.1,.int .i64 q.2.2]) [] []
  | _,_,_=>none
 | _=>none}
theorem q5Z {n:Int} (h:-9223372036854775808≤n∧n≤9223372036854775807):kwf .i64 n:=h
theorem kwfw (n:Int):kwf .i64 (IntKind.i64.wrap n):=by rw[IntKind.wrap_i64]; exact q5Z (by omega)
theorem qnT (pl:Int):∀ (zs:List Int) (i s:Int),kwf .i64 i→kwf .i64 (qa4 pl zs i s).1∧kwf .i64 (qa4 pl zs i s).2.1∧kwf .i64 (qa4 pl zs i s).2.2
 | [],i,s,h=>by
  show kwf .i64 0∧kwf .i64 0∧kwf .i64 170
  exact⟨q5Z (by decide),q5Z (by decide),q5Z (by decide)⟩
 | z::zs,i,s,h=>by
  rw[qa4]
  cases decide (pl<IntKind.i64.wrap (s+z))
  ·
   exact qnT pl zs _ _ (kwfw _)
  ·
   show kwf .i64 i∧kwf .i64 (IntKind.i64.wrap _)∧kwf .i64 0
   exact⟨h,kwfw _,q5Z (by decide)⟩
theorem planN_in {is:Bool} {er:Int} (he:kwf .i64 er) {p:Plan} {t:Int} {q:Int×Int×Int} (h:qnV (some (is,er)) p t=some q):kwf .i64 q.1∧kwf .i64 q.2.1∧kwf .i64 q.2.2:=by
 have z:∀ n:Int,-9223372036854775808≤n∧n≤9223372036854775807→kwf .i64 n:=fun n h=>h
 unfold qnV at h
 dsimp only at h
 cases h1:er != 0 <;> rw[h1] at h
 ·
  cases h2:!is <;> rw[h2] at h
  ·
   cases h3:(decide (t<0)||decide (t > 1073741824)) <;> rw[h3] at h
   ·
    simp only[cond_false] at h
    obtain⟨-,h4⟩:=req_ok h
    rw[← Option.some.inj h4]
    exact qnT _ _ _ _ (z 0 (by decide))
   ·
    simp only[cond_false,cond_true,Option.some.injEq] at h
    subst h; exact⟨z 0 (by decide),z 0 (by decide),z 2 (by decide)⟩
  ·
   simp only[cond_false,cond_true,Option.some.injEq] at h
   subst h; exact⟨z 0 (by decide),z 0 (by decide),z 170 (by decide)⟩
 ·
  simp only[cond_true,Option.some.injEq] at h
  subst h; exact⟨z 0 (by decide),z 0 (by decide),he⟩
theorem ints_of {w:World} {im:Nat→Prop} {ρ:Ids} {v:Value} {xs:List Int} (him:∀ b,im b→b<w.heap.size) (h:Rep w im ρ v (.sl 1 xs)):Ints w.heap.size w v xs:=by
 rcases q5S h with ⟨rfl,a,rfl⟩ | ⟨b,off,cap,rfl,-,hb,hc⟩
 ·
  exact .inl ⟨a,rfl,rfl⟩
 ·
  refine .inr ⟨b,off,cap,rfl,him b hb,fun j hj=>?_⟩
  obtain⟨u,h1,h2⟩:=hc j (xs[j]'hj) (List.getElem?_eq_getElem hj) 0 (by decide)
  have e:=(show Rep w im qai u (.int .i64 (xs[j]'hj)) from h2).inv_int.1
  rw[List.getElem?_eq_getElem hj]
  have:off+j*szOf 1+0=off+j:=by show off+j*1+0=_; omega
  rw[this] at h1
  rw[h1,e]; rfl
theorem q6a {S:DSpec} (hS:DH Tryz.prog 192 S) (hown:S.own=[]) (hc:∀ args w,(callFunc 192 args).run Tryz.prog w=.ok (.enter 192 args) w) {F:SiteT→Plan→Option (Bool×Int)} {G:SiteT→Plan→Int→Option (Int×Int×Int)}
  (hG:∀ s p t q,G s p t=some q→p.splits.length*8≤140737488351232∧qnV (F s p) p t=some q)
  (hrun:∀ (R:Type) (s:SiteT) (p:Plan) (t:Bool×Int) (K:KO R),F s p=some t→S.run DOps.std R [.agg (enc 25 s),.agg (enc 10 p)] [] K=K (.tup [.bool t.1,.int .i64 t.2]) [] []):DH Tryz.prog 146 (qzL G):=by
 refine⟨qc9.h ?_ rfl⟩
 intro w im vals args k o a next Q him hKc hlen hrep hrun' hnext
 obtain⟨R,K,r,hrn,hK⟩:=hrun'
 unfold qzL at hrn
 dsimp only at hrn
 split at hrn
 ·
  rename_i sc pc κ t
  split at hrn
  ·
   rename_i s p hs hp hk
   cases qaA hk
   obtain⟨q,h1,h2⟩:=qco hrn
   obtain⟨hl,hN⟩:=hG _ _ _ _ h1
   obtain⟨v0,v1,v2,rfl⟩:∃ a b c,vals=#[a,b,c]:=arr3 hlen
   obtain⟨ys,rfl,y1,y2,y3⟩:=(hrep 0 v0 rfl).inv_agg
   obtain⟨zs,rfl,z1,z2,z3⟩:=(hrep 1 v1 rfl).inv_agg
   obtain⟨rfl,-⟩:=(hrep 2 v2 rfl).inv_int
   have d1:=(qhf (w:=w) (im:=im) (ρ:=qai) 25 sc s hs).1
   have d2:=(qhf (w:=w) (im:=im) (ρ:=qai) 25 sc s hs).2
   have e1:=(qhf (w:=w) (im:=im) (ρ:=qai) 10 pc p hp).1
   have e2:=(qhf (w:=w) (im:=im) (ρ:=qai) 10 pc p hp).2
   have l25:(enc 25 s).length=12:=by cases s; rfl
   have l10:(enc 10 p).length=3:=by cases p; rfl
   have s25:ys.size=12:=y1.trans d1
   have s10:zs.size=3:=z1.trans e1
   have w0:Rep w im qai (.agg ys) (.agg (enc 25 s)):=.agg (s25.trans l25.symm) y2 fun j v h=>d2 j v (by have:=(Array.getElem?_eq_some_iff.1 h).1; show j<12; omega) (y3 j v h)
   have w1:Rep w im qai (.agg zs) (.agg (enc 10 p)):=.agg (s10.trans l10.symm) z2 fun j v h=>e2 j v (by have:=(Array.getElem?_eq_some_iff.1 h).1; show j<3; omega) (z3 j v h)
   obtain⟨is,er,hF⟩:∃ is er,F s p=some (is,er):=by
    cases hF:F s p with
    | none=>rw[hF] at hN; cases hN
    | some t=>exact⟨t.1,t.2,rfl⟩
   rw[hF] at hN
   have hCall:∀ w',RowKit.Below w.heap.size w w'→Calls Tryz.prog 192 #[.agg ys,.agg zs] w' fun x W'=>x=.returned (.tuple #[.bool is,.int .i64 er])∧kwf .i64 er∧RowKit.Below w'.heap.size w' W':=fun w' hB =>
    q5Y hS hown hc (fun b hb=>Nat.lt_of_lt_of_le (him b hb) hB.size) (hKc.mono (fun b hb=>hb) (fun b hb=>hB.block b (him b hb))) (args:=[.agg (enc 25 s),.agg (enc 10 p)]) rfl (fun j v h=>by
     have st:∀ {v a},Rep w im qai v a→Rep w' im qai v a:=fun h=>h.stable (fun b hb=>hB.block b (him b hb)) (fun b hb=>hb) (fun _ _ h=>h) (fun _ _ _ h=>by simp[qai] at h)
     rcases j with _ | _ | j
     ·
      cases h; exact st w0
     ·
      cases h; exact st w1
     ·
      simp at h) (fun R K=>hrun R s p (is,er) K hF)
   obtain⟨_,_,_,⟨-,her,-⟩,-⟩:=hCall w (Below.refl _ _) []
   obtain⟨a0,a1,a2,a3,a4,a5,a6,a7,a8,a9,a10,a11,rfl⟩:=arr12 s25
   obtain⟨b0,b1,b2,rfl⟩:=arr3 s10
   have g0:b0=.int .i64 p.cycle:=(e2 0 b0 (by decide) (z3 0 b0 rfl)).inv_int.1
   have g1:b1=.int .i64 p.offset:=(e2 1 b1 (by decide) (z3 1 b1 rfl)).inv_int.1
   have g2:Rep w im qai b2 (.sl 1 p.splits):=e2 2 b2 (by decide) (z3 2 b2 rfl)
   subst g0 g1
   rw[Tryz.call146]
   refine qcp (callsIn_wide.1 (at_in Fence.wide 3 trivial trivial trivial trivial rfl (by omega) a0 a1 a2 a3 a4 a5 a6 a7 a8 a9 a10 a11 p.cycle p.offset t b2 p.splits is er w (ints_of him g2) hl (fun w' hB=>callsIn_wide.2 (qcp (hCall w' hB) fun _ _ h=>⟨h.1,h.2.2⟩)) q.1 q.2.1 q.2.2 hN)) fun e w' he=>?_
   obtain⟨rfl,hB⟩:=he
   have hin:=planN_in her hN
   exact hnext _ _ (fun b=>(true:Bool)=false∧im b) qai _ [] (hK _ _ _ h2) {below:=hB,imold:=fun e b hb=>⟨e,hb⟩,imnew:=fun b hb=>.inl hb,dom:=fun _ _=>rfl,blk:=fun j b hj=>by simp at hj,inj:=fun _ _ _ _ _ hi=>by simp[qai] at hi,notim:=fun _ _ _ hi=>by simp[qai] at hi,fresh:=fun _ _ _ hi=>by simp[qai] at hi,rep:=q2f (.int hin.1) (.int hin.2.1) (.int hin.2.2)}
  ·
   cases hrn
 ·
  cases hrn
end Go.Proofs.YtcdppfnjidlknaaGreatDoor
namespace Go.Eng
open Go
set_option linter.unusedVariables false
def W {α:Type} (o:Option α) (Q:α→Prop):Prop:=∃ r,o=some r∧Q r
theorem W.mono {α:Type} {o:Option α} {P Q:α→Prop} (h:W o P) (k:∀ r,P r→Q r):W o Q:=by
 obtain⟨r,e,p⟩:=h; exact⟨r,e,k r p⟩
theorem qaa {α:Type} {a:α} {Q:α→Prop} (h:Q a):W (some a) Q:=⟨a,rfl,h⟩
theorem W_eq {α:Type} {o:Option α} {a:α} (h:W o fun r=>r=a):o=some a:=by
 obtain⟨r,e,p⟩:=h; rw[e,p]
class BP (c:Bool) (p:outParam Prop):Prop where
 iff:c=true↔p
instance (priority:=low) bp0 (c:Bool):BP c (c=true):=⟨Iff.rfl⟩
instance bpD (p:Prop) [Decidable p]:BP (decide p) p:=⟨decide_eq_true_iff⟩
instance bpE {α:Type} [BEq α] [LawfulBEq α] (a b:α):BP (a==b) (a=b):=⟨beq_iff_eq⟩
instance bpN {α:Type} [BEq α] [LawfulBEq α] (a b:α):BP (a != b) (a≠b):=⟨bne_iff_ne⟩
instance bpNot (c:Bool) (p:Prop) [h:BP c p]:BP (!c) (¬ p):=⟨by rw[← h.iff]; simp⟩
instance bpOr (a b:Bool) (p q:Prop) [h:BP a p] [h':BP b q]:BP (bif a then true else b) (p∨q):=⟨by rw[← h.iff,← h'.iff]; cases a <;> simp⟩
instance bpAnd (a b:Bool) (p q:Prop) [h:BP a p] [h':BP b q]:BP (bif a then b else false) (p∧q):=⟨by rw[← h.iff,← h'.iff]; cases a <;> simp⟩
instance bpA (a b:Bool) (p q:Prop) [h:BP a p] [h':BP b q]:BP (a&&b) (p∧q):=⟨by rw[← h.iff,← h'.iff]; simp⟩
instance bpO (a b:Bool) (p q:Prop) [h:BP a p] [h':BP b q]:BP (a||b) (p∨q):=⟨by rw[← h.iff,← h'.iff]; simp⟩
theorem qaf {α:Type} {b:Bool} {p:Prop} [h:BP b p] {q:Option α} {Q:α→Prop} (hb:p) (g:W q Q):W (req b q) Q:=by
 rw[show b=true from h.iff.2 hb]; exact g
theorem W_if {α:Type} {b:Bool} {p:Prop} [e:BP b p] {x y:Option α} {Q:α→Prop} (h:p→W x Q) (g:¬ p→W y Q):W (bif b then x else y) Q:=by
 cases hb:b with
 | true=>exact h (e.iff.1 hb)
 | false=>exact g fun hp=>by rw[e.iff.2 hp] at hb; cases hb
theorem qac {α β:Type} {e:α} {k:α→Option β} {Q:β→Prop} (h:∀ x,x=e→W (k x) Q):W (DOps.ev.letv e k) Q:=h e rfl
theorem qab {α β:Type} {o:Option α} {k:α→Option β} {P:α→Prop} {Q:β→Prop} (h:W o P) (g:∀ x,P x→W (k x) Q):W (DOps.ev.bind o k) Q:=by
 obtain⟨r,e,p⟩:=h; subst e; exact g r p
theorem qbv {α β:Type} {o:Option α} {k:α→Option β} {a:α} {Q:β→Prop} (h:o=some a) (g:W (k a) Q):W (DOps.ev.bind o k) Q:=by
 subst h; exact g
theorem W_sm {α:Type} {a:Option α} {l:List (Option α)} {t:Tr} {Q:α→Prop} (h:W a Q) (ht:t.fst=0:=by rfl):W (sm DOps.ev (a::l) t) Q:=by
 rw[smE ht]; exact h
def Jn {α β:Type} (J:α→Option β) (P:α→Prop) (Q:β→Prop):Prop:=∀ x,P x→W (J x) Q
theorem Jn.use {α β:Type} {J:α→Option β} {P:α→Prop} {Q:β→Prop} (h:Jn J P Q) (x:α) (p:P x):W (J x) Q:=h x p
theorem qay {α β:Type} {k:(α→Option β)→Option β} {J:α→Option β} {Q:β→Prop} (P:α→Prop) (g:∀ K:α→Option β,Jn K P Q→W (k K) Q) (h:∀ x,P x→W (J x) Q):W (DOps.ev.join k J) Q:=g J h
theorem W_any {α β:Type} [Inhabited α] {k:α→Option β} {r:β} (h:∀ g,W (k g) (fun x=>x=r)):W (DOps.ev.any k) (fun x=>x=r) :=
 ⟨r,anyO_of default fun g=>W_eq (h g),rfl⟩
theorem W_fixN {V α:Type} {F:(V→Option α)→V→Option α} {Q:α→Prop} (I:V→Prop) (m:V→Nat)
  (step:∀ rec v,I v→(∀ v',I v'→m v'<m v→W (rec v') Q)→W (F rec v) Q) :
  ∀ n v,I v→m v<n→W (fixN F n v) Q
 | 0,v,_,h=>absurd h (Nat.not_lt_zero _)
 | n+1,v,i,h=>step (fixN F n) v i fun v' i' h'=>W_fixN I m step n v' i' (by omega)
def Rec {V α:Type} (rec:V→Option α) (I:V→Prop) (m:V→Nat) (v:V) (Q:α→Prop):Prop:=∀ v',I v'→m v'<m v→W (rec v') Q
theorem Rec.use {V α:Type} {rec:V→Option α} {I:V→Prop} {m:V→Nat} {v:V} {Q:α→Prop} (h:Rec rec I m v Q) (v':V) (i:I v') (l:m v'<m v):W (rec v') Q:=h v' i l
theorem qaj {V α:Type} {v:V} {F:(V→Option α)→V→Option α} {Q:α→Prop} (I:V→Prop) (m:V→Nat) (i:I v) (b:m v<NN)
  (step:∀ rec v,I v→Rec rec I m v Q→W (F rec v) Q):W (DOps.ev.fix v F) Q:=W_fixN I m step NN v i b
theorem w64 {n:Int} (h:-9223372036854775808≤n∧n<9223372036854775808):IntKind.i64.wrap n=n:=by
 have e:(2:Int) ^ 64=18446744073709551616:=by decide
 have e':(2:Int) ^ (64 - 1)=9223372036854775808:=by decide
 simp only[IntKind.wrap,IntKind.signed,IntKind.bits,Bool.true_and,e,e']; split <;> rename_i c <;> simp only[decide_eq_true_eq,ge_iff_le] at c <;> omega
theorem w32 {n:Int} (h:0≤n∧n<4294967296):IntKind.u32.wrap n=n:=by
 simp only[IntKind.wrap,IntKind.signed,IntKind.bits,Bool.false_and,Bool.false_eq_true,if_false]; omega
theorem wu64 {n:Int} (h:0≤n∧n<18446744073709551616):IntKind.u64.wrap n=n:=by
 simp only[IntKind.wrap,IntKind.signed,IntKind.bits,Bool.false_and,Bool.false_eq_true,if_false]; omega
theorem w8 {n:Int} (h:0≤n∧n<256):IntKind.u8.wrap n=n:=by
 simp only[IntKind.wrap,IntKind.signed,IntKind.bits,Bool.false_and,Bool.false_eq_true,if_false]; omega
section
variable {R : Type} {Q : R → Prop} {k : Int → Option R}
theorem qah {n:Int} (b:-9223372036854775809≤n∧n<9223372036854775807) (h:∀ x,x=n+1→W (k x) Q):W (inc DOps.ev n k) Q:=h _ (w64 (by omega))
theorem W_wi {e:Int} (b:-9223372036854775808≤e∧e<9223372036854775808) (h:∀ x,x=e→W (k x) Q):W (DOps.ev.letv (wi e) k) Q:=h _ (w64 b)
theorem W_wq {e:Int} (b:0≤e∧e<4294967296) (h:∀ x,x=e→W (k x) Q):W (DOps.ev.letv (wq e) k) Q:=h _ (w32 b)
theorem W_wu {e:Int} (b:0≤e∧e<18446744073709551616) (h:∀ x,x=e→W (k x) Q):W (DOps.ev.letv (wu e) k) Q:=h _ (wu64 b)
theorem W_wb {e:Int} (b:0≤e∧e<256) (h:∀ x,x=e→W (k x) Q):W (DOps.ev.letv (wb e) k) Q:=h _ (w8 b)
theorem W_rb {n:Int} {l:Nat} {q:Option R} (h:0≤n∧n<l) (g:W q Q):W (rb n l q) Q:=qaf h.1 (qaf h.2 g)
theorem qvN {n:Int} {b:Nat} {q:Option R} (h:0≤n∧n*(b:Int)≤140737488355328) (g:W q Q):W (mks n b q) Q:=qaf ⟨h.1,Int.le_refl _,h.2⟩ g
theorem W_rm {n b:Nat} {q:Option R} (h:n*b≤140737488355328) (g:W q Q):W (rm n b q) Q:=qaf h g
theorem W_rs {a b:Nat} {q:Option R} (h:a=b) (g:W q Q):W (rs a b q) Q:=by
 subst h; unfold rs sameN; rw[Nat.beq_refl]; exact g
theorem W_ix {α:Type} {z:List α} {n:Int} {d:α} {k:α→Option R} (h:0≤n∧n<z.length) (g:∀ x,x=z.getD n.toNat d→W (k x) Q):W (ix DOps.ev z n d k) Q:=qaf h.1 (qaf h.2 (g _ rfl))
end
theorem qdr {α:Type} {l:List α} {d:α} {k:Nat} (h:k<l.length):l.getD k d=l[k]:=by
 simp[List.getD,List.getElem?_eq_getElem h]
theorem qao {α:Type} {P:α→Prop} {l:List α} (h:∀ x∈l,P x) {n:Int} {d:α} (g:0≤n∧n<l.length):P (l.getD n.toNat d):=by
 rw[qdr (by omega)]; exact h _ (List.getElem_mem _)
theorem qdL {α:Type} {l:List α} {n:Int} {d:α} (g:0≤n∧n<l.length):l.getD n.toNat d∈l:=qao (P:=(·∈l)) (fun _ h=>h) g
def Upto {α:Type} (P:α→Prop) (l:List α) (d:α) (n:Int):Prop:=∀ k:Nat,(k:Int)<n→P (l.getD k d)
theorem Upto.zero {α:Type} {P:α→Prop} {l:List α} {d:α}:Upto P l d 0:=fun k h=>absurd h (by omega)
theorem Upto.succ {α:Type} {P:α→Prop} {l:List α} {d:α} {n m:Int} (h:Upto P l d n) (g:0≤n) (e:m=n+1) (p:P (l.getD n.toNat d)):Upto P l d m:=by
 intro k hk
 by_cases e:(k:Int)=n
 ·
  subst e; simpa using p
 ·
  exact h k (by omega)
theorem Upto.all {α:Type} {P:α→Prop} {l:List α} {d:α} {n:Int} (h:Upto P l d n) (g:(l.length:Int)≤n):∀ x∈l,P x:=by
 intro x hx
 obtain⟨k,hk,e⟩:=List.getElem_of_mem hx
 have:=h k (by omega)
 rw[qdr hk,e] at this; exact this
end Go.Eng
