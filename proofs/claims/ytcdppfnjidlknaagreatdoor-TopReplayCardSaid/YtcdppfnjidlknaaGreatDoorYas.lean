import Derived.Test.YtcdppfnjidlknaaGreatDoorYar
import Derived.RangeFuncNested
import Derived.RangeFuncCalls
import Derived.OwnWalkIn
import Derived.OrdersIn
set_option linter.unusedVariables false
set_option linter.unusedSimpArgs false
namespace Go.Proofs.YtcdppfnjidlknaaGreatDoor
open Go Go.RowKit Go.Shelf Go.Proofs
attribute [local go_sem] Oper.semAt_some
def endS (zs:List Int)(k:Nat):Int:=(zs.take k).foldl (fun e n=>wrap64 (e+n)) 0
theorem qoB (zs:List Int){k:Nat}(h:k<zs.length):endS zs (k+1)=wrap64 (endS zs k+zs[k]?.getD 0):=by
 unfold endS
 rw[List.take_add_one,List.foldl_append,List.getElem?_eq_getElem h];rfl
abbrev Pt (zs:List Int):Type:={x:Nat×Int // x.1<zs.length}
def up (zs:List Int):(k:Nat)→k≤zs.length→List (Pt zs)
 |0,_=>[]
 |k+1,h=>up zs k (Nat.le_of_succ_le h)++[⟨(k,endS zs (k+1)),h⟩]
theorem qoC (zs:List Int):∀ (k:Nat) (h:k≤zs.length),(up zs k h).length=k
 |0,_=>rfl
 |k+1,h=>by rw[up,List.length_append,qoC zs k];rfl
theorem up_mem (zs:List Int):∀ (k:Nat) (h:k≤zs.length) (x:Pt zs),x∈up zs k h→x.1.2=endS zs (x.1.1+1)∧x.1.1<k
 |0,_,x,hx=>by simp[up] at hx
 |k+1,h,x,hx=>by
  rw[up,List.mem_append] at hx
  rcases hx with hx|hx
  ·
   have:=up_mem zs k _ x hx;omega
  ·
   simp only[List.mem_singleton] at hx;subst hx;exact⟨rfl,by show k<k+1;omega⟩
theorem q7a (zs:List Int):∀ (k:Nat) (h:k≤zs.length) (j:Nat) (hj:j<k),⟨(j,endS zs (j+1)),by omega⟩∈up zs k h
 |k+1,h,j,hj=>by
  rw[up,List.mem_append]
  by_cases c:j=k
  ·
   subst c;exact .inr (List.mem_singleton.2 rfl)
  ·
   exact .inl (q7a zs k _ j (by omega))
set_option maxRecDepth 100000 in
set_option maxHeartbeats 2000000 in
theorem q7b (F:Fence) (n:Nat) (h:F.fn 215) (hro:F.round=none) (hn:1≤n) (l Bs n₀ b off cap:Nat) (zs:List Int) (hreach:zs.length*8≤140737488351232) (hb:b<n₀) (J Jx:List (Pt zs)→World→Prop)
  (hY:∀ pre x W,J pre W→pre.length<zs.length→YieldAt F (n-1) Tryz.prog l #[.int .i64 (x.1.1:Int),.int .i64 x.1.2] W fun e W' =>
   (e=.returned (.bool true)∧J (pre++[x]) W'∧Below n₀ W W')∨(e=.returned (.bool false)∧Jx (pre++[x]) W'))
  (W:World) (hBs:W.cell? ⟨Bs,2,none⟩=some (.slice (some ⟨b,off,none⟩) zs.length cap)) (hc:∀ j,j<zs.length→W.cell? ⟨b,off+j,none⟩=some (.int .i64 (zs[j]?.getD 0))) (h0:J [] W) :
  CallsIn F n Tryz.prog 215 #[.func (.yield l) #[] #[],.pointer (some ⟨Bs,0,none⟩)] W fun e W'=>(∃ v,e=.returned v) ∧
   ((∃ ys,ys=up zs zs.length (Nat.le_refl _)∧J ys W')∨(∃ pre,(∃ k h,pre=up zs k h)∧Jx pre W')):=by
 refine callsIn_of_wp Tryz.func215 rfl h ?_ hro
 simp only[Tryz.ntmps215,List.size_toArray,List.length_cons,List.length_nil,Nat.reduceAdd,Nat.reduceSub,Array.replicate_succ,Array.replicate_zero,List.push_toArray,List.append_toArray,List.nil_append,List.cons_append]
 gi_wp2
 gi_loopw [3,9] (fun e i wr=>∃ (k:Nat) (hk:k≤zs.length),e=.int .i64 (endS zs k)∧i=.int .i64 k∧J (up zs k hk) wr∧Below n₀ W wr)
  (fun e i _=>zs.length-(intOf i).toNat)
 case atStart=>exact⟨0,Nat.zero_le _,rfl,rfl,h0,Below.refl _ _⟩
 case round =>
  obtain⟨k,hk,rfl,rfl,hJs,hnx⟩:=hrel
  have hcx:k<zs.length→wr.cell? ⟨b,off+k,none⟩=some (.int .i64 (zs[k]?.getD 0)):=fun h=>(hnx.cell (p:=⟨b,off+k,none⟩) hb).trans (hc k h)
  by_cases hlt:k<zs.length
  ·
   obtain⟨fn,tmps,assign,body,hy,hR⟩:=hY _ ⟨(k,endS zs (k+1)),hlt⟩ wr hJs (by rw[qoC];exact hlt)
   dsimp only at hy
   have hcx':=hcx hlt
   have he:endS zs (k+1)=wrap64 (endS zs k+zs[k]'hlt):=by rw[qoB zs hlt,List.getElem?_eq_getElem hlt];rfl
   rw[he] at hy
   gi_wp2
   refine hR.mono ?_
   rintro e W3 (⟨rfl,hJ3,hk3⟩|⟨rfl,hJx3⟩)
   ·
    gi_wp2
    go_roundw
    case rel=>exact⟨k+1,hlt,by rw[he],by simp,hJ3,hnx.trans hk3⟩
    case measure=>simp[intOf];omega
   ·
    gi_wp2
    refine bodyPost_ret (results_none rfl _ _ _) rfl ?_
    exact⟨⟨_,rfl⟩,.inr ⟨_,⟨k+1,hlt,rfl⟩,hJx3⟩⟩
  ·
   obtain rfl:k=zs.length:=by omega
   gi_wp2
   go_end0
   exact⟨⟨_,rfl⟩,.inl ⟨_,rfl,hJs⟩⟩
set_option maxRecDepth 100000 in
set_option maxHeartbeats 1000000 in
theorem q7c (F:Fence) (n:Nat) (h:F.fn 215) (hro:F.round=none) (l Bs cap:Nat) (a:Option Addr) {α:Type} (J:List α→World→Prop) (W:World) (hBs:W.cell? ⟨Bs,2,none⟩=some (.slice a 0 cap)) (h0:J [] W) :
  CallsIn F n Tryz.prog 215 #[.func (.yield l) #[] #[],.pointer (some ⟨Bs,0,none⟩)] W fun e W'=>(∃ v,e=.returned v)∧J [] W':=by
 refine callsIn_of_wp Tryz.func215 rfl h ?_ hro
 simp only[Tryz.ntmps215,List.size_toArray,List.length_cons,List.length_nil,Nat.reduceAdd,Nat.reduceSub,Array.replicate_succ,Array.replicate_zero,List.push_toArray,List.append_toArray,List.nil_append,List.cons_append]
 gi_wp2
 gi_loopw [3,9] (fun e i wr=>e=.int .i64 0∧i=.int .i64 0∧J [] wr) (fun _ _ _=>0)
 case atStart=>exact⟨rfl,rfl,h0⟩
 case round =>
  obtain⟨rfl,rfl,hJs⟩:=hrel
  gi_wp2
  go_end0
  exact⟨⟨_,rfl⟩,hJs⟩
set_option maxHeartbeats 1000000 in
theorem parts_in (F:Fence) (n:Nat) (h:F.fn 193) (hro:F.round=none) (c o:Int) (a:Option Addr) (len cap:Nat) (w:World) :
  CallsIn F n Tryz.prog 193 #[.agg #[.int .i64 c,.int .i64 o,.slice a len cap]] w fun e w'=>e=.returned (.func (.func 215) #[] #[.pointer (some ⟨w.heap.size,0,none⟩)])∧w'=w.alloc (.cells #[.int .i64 c,.int .i64 o,.slice a len cap] 68):=by
 refine callsIn_of_wp Tryz.func193 rfl h ?_ hro
 simp only[Tryz.ntmps193,List.size_toArray,List.length_cons,List.length_nil,Nat.reduceAdd,Nat.reduceSub,Array.replicate_succ,Array.replicate_zero,List.push_toArray,List.append_toArray,List.nil_append,List.cons_append]
 gi_wp2
 go_ret
 exact⟨rfl,rfl⟩
def Ints (n₀:Nat)(W:World)(sv:Value)(zs:List Int):Prop :=
 (∃ a,sv=.slice a 0 0∧zs=[])∨∃ b off cap,sv=.slice (some ⟨b,off,none⟩) zs.length cap∧b<n₀∧∀ j,j<zs.length→W.cell? ⟨b,off+j,none⟩=some (.int .i64 (zs[j]?.getD 0))
theorem Ints.below {n₀:Nat}{A B:World}(h:Below n₀ A B){sv:Value}{zs:List Int}:Ints n₀ A sv zs→Ints n₀ B sv zs
 |.inl e=>.inl e
 |.inr ⟨b,off,cap,e,hb,hc⟩=>.inr ⟨b,off,cap,e,hb,fun j hj=>(h.cell (p:=⟨b,off+j,none⟩) hb).trans (hc j hj)⟩
theorem q0J (F:Fence) (n:Nat) (h:F.fn 215) (hro:F.round=none) (hn:1≤n) (Bs n₀:Nat) (sv:Value) (zs:List Int) (hreach:zs.length*8≤140737488351232) (w:World) (hBs:Bs<w.heap.size) (hn₀:n₀≤w.heap.size)
  (hc:w.cell? ⟨Bs,2,none⟩=some sv) (hI:Ints n₀ w sv zs) :
  SeqStopsK F n Tryz.prog 215 #[.pointer (some ⟨Bs,0,none⟩)] (fun x:Pt zs=>#[Value.int .i64 (x.1.1:Int),Value.int .i64 x.1.2]) (Below n₀) (fun ys=>ys=up zs zs.length (Nat.le_refl _))
   (fun pre=>∃ k h,pre=up zs k h) zs.length w:=fun l J Jx W hW _ _ hY h0=>by
 have hc':=(hW.cell (p:=⟨Bs,2,none⟩) hBs).trans hc
 rcases hI.below (hW.mono hn₀) with ⟨a,rfl,rfl⟩|⟨b,off,cap,rfl,hb,hcs⟩
 ·
  exact(q7c F n h hro l Bs 0 a J W hc' h0).mono fun e W' ⟨he,hj⟩=>⟨he,.inl ⟨_,rfl,hj⟩⟩
 ·
  exact q7b F n h hro hn l Bs n₀ b off cap zs hreach hb J Jx hY W hc' hcs h0
end Go.Proofs.YtcdppfnjidlknaaGreatDoor
namespace Go
variable {F : Fence} {n : Nat} {P : Program}
theorem q4W {l:Nat}{o:Oper}{a:Act}{w:World}{K:Act→World→Prop}{Q:Exit→Act→World→Prop}(hd:∀ c,o.op≠.defer c)(h:o.wpIn F n P a w K Q):o.wpIn (F.inRound l) n P a w K Q:=by
 unfold Oper.wpIn at h ⊢
 rw[Oper.semAt_plain _ _ _ hd] at h ⊢
 exact h
def qjc (o:Oper):Bool:=match o.op with
 |.defer _=>false
 |_=>true
theorem qvb {o:Oper}(h:qjc o=true)(c:Call):o.op≠.defer c:=by
 intro e
 unfold qjc at h
 rw[e] at h;cases h
theorem qxp {l:Nat}{ops:Array Oper}{Q:Exit→Act→World→Prop}{i:Nat}{K:Act→World→Prop}{a:Act}{w:World}(hd:ops.all qjc=true)(h:wpOpIn F n P ops Q i K a w):wpOpIn (F.inRound l) n P ops Q i K a w:=by
 unfold wpOpIn at h ⊢
 cases ho:ops[i]? with
 |none=>rw[ho] at h;exact h
 |some o =>
  rw[ho] at h
  dsimp only at h ⊢
  have hn:=qvb (Array.all_eq_true'.1 hd o (Array.mem_of_getElem? ho))
  split
  ·
   rename_i c
   rw[if_pos c] at h
   exact q4W hn h
  ·
   rename_i c
   rw[if_neg c] at h
   exact h
theorem qoA {l:Nat}{md:Region.Mode}{ops:Array Oper}{Q:Exit→Act→World→Prop}(hd:ops.all qjc=true):∀ (fuel:Nat) (listed:Array Bool) (a:Act) (w:World),wpAnyIn F n P md ops Q fuel listed a w→wpAnyIn (F.inRound l) n P md ops Q fuel listed a w
 |0,_,_,_,h=>h
 |fuel+1,listed,a,w,⟨h1,h2⟩=>⟨h1,fun i hi=>qxp hd (wpOpIn_mono (fun a w=>qoA hd fuel _ a w) (h2 i hi))⟩
theorem qrt {l id:Nat} {ops:Array Oper} {Q:Exit→Act→World→Prop} {a:Act} {w:World} (hm:P.follows .mixedOrders=true) (hd:ops.all qjc=true)
  (h:wpAnyIn F n P .any ops Q ops.size (Array.replicate ops.size false) a w.drew):(Code.region id ops true).wpIn (F.inRound l) n P Q a w :=
 wpIn_region_any hm (qoA hd _ _ _ _ h)
end Go
