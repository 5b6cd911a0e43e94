/- Whatever the site, the device and the inputs, TopUp answers true and leaves its arguments as they were; this rests on the tables of math/bits being laid as the program lays them. -/
import Derived.Test.YtcdppfnjidlknaaGreatDoorUbg
import Derived.Test.YtcdppfnjidlknaaGreatDoorTie
import Derived.Test.YtcdppfnjidlknaaGreatDoorCards
import Derived.ProofKit
import Derived.LaidMore
import Derived.OpenShut
import Derived.Stop.Joined
import Derived.Lib.LaidTab
import Derived.SevenTiedAt
set_option linter.unusedVariables false
set_option linter.unusedSimpArgs false
namespace Go.Proofs.YtcdppfnjidlknaaGreatDoor
open Go Go.Eng Go.Proofs Go.Wp
theorem alive_ok:q3t=some true:=by kernel_rfl
def InT (i:Inp):Prop:=(0≤i.eyesf∧i.eyesf<4294967296)∧i.bytesf.length≤140737488355328∧i.backf.length≤140737488355328
def bb (i:Inp):Int:=(i.bytesf.length:Int)+(i.backf.length:Int)
def FitOk (s:SiteT)(d:List UInt8)(l:List Inp):Prop:=SSm s∧d.length≤5000∧l.length≤200∧∀ i∈l,bb i≤20000
theorem q6Y {s:SiteT}{d:List UInt8}{l:List Inp}(h:FitOk s d l)(t:∀ i∈l,InT i):∀ i∈l,InOk i:=by
  intro i hi
  have h1:=h.2.2.2 i hi
  have h2:=t i hi
  unfold bb at h1
  exact⟨by omega,h2.1,by omega⟩
theorem q6Z {α:Type}{n:Nat}{f:Nat→α}:((List.range n).map f).length=n:=by simp
theorem rng_get {α:Type}{n k:Nat}{f:Nat→α}{d:α}(h:k<n):((List.range n).map f).getD k d=f k:=by
  rw[qdr (by simpa using h)];simp
theorem mode_get {s:SiteT}{x:LocT}{l:List Inp}{k:Nat}(h:LOk s (XS s x l (k+1)))(hk:k<l.length):((((List.range l.length).map (MS s x l)).getD k (0:UInt8)).toNat:Int)=(XS s x l (k+1)).mode:=by
  rw[rng_get hk]
  have:=h.rung.1
  unfold MS
  rw[UInt8.toNat_ofNat'];omega
theorem up_step {s:SiteT} {x y:LocT} {i:Inp} {l:List UInt8} {was last k:Int} (ran:Ran s x i y l) (w:was=x.mode) (h:x.well≤k-1-last) (b:-1≤last∧last<k) :
    (i.lostf=true∨y.mode≠was→y.well≤0)∧(¬ (i.lostf=true∨y.mode≠was)→y.well≤k-last)∧(¬ i.lostf=true→y.mode > was→y.mode=was+1∧s.heal≤k-last):=by
  subst w
  by_cases c:i.lostf=true
  · have:=(ran.lost c).well
    exact⟨fun _=>by omega,fun g=>absurd (.inl c) g,fun g=>absurd c g⟩
  · obtain⟨f1,f2,f3,f4,⟨-,-,-,-,-,-,g1,g2,g3⟩,-,-⟩:=(ran.went (by simpa using c)).rung
    refine⟨fun g=>?_,fun g=>?_,fun _ g=>?_⟩
    · have:=g3 (by rcases g with g|g;exact absurd g c;exact g);omega
    · have:=g2 (by omega);omega
    · have:=g1 (by omega);omega
theorem q7a {s:SiteT}:W (q0f s) (fun r=>r=false→SSm s):=by
 unfold q0f quD
 refine W_if (fun c1=>?_) fun c1=>?_
 ·refine qaa ?_
  simp
 ·refine qaj (fun v=>∃ n3,v=((),((s,()),()),n3,())∧(0≤n3∧n3≤s.between.length)∧(Upto (fun z:List Int=>z.length≤40) s.between (dflt 7) n3)) (fun(_,((_,_),_),n3,_)=>(s.between.length-n3).toNat) ⟨_,rfl,by omega,Upto.zero⟩ (by simp only[NN];omega) ?_
  rintro r1 _ ⟨n3,rfl,hr1_0,hr1_1⟩ ihr1
  refine W_if (fun c2=>?_) fun c2=>?_
  ·refine W_ix (by omega) fun z9 hz9=>?_
   refine W_if (fun c3=>?_) fun c3=>?_
   ·refine qaa ?_
    simp
   ·refine qah (by omega) fun n10 hn10=>?_
    exact ihr1.use _ ⟨_,rfl,by omega,hr1_1.succ (by omega) hn10 (by rw[← hz9];omega)⟩ (by dsimp only;omega)
  ·refine qaj (fun v=>∃ n6,v=((),((s,()),()),n6,())∧(0≤n6∧n6≤s.plans.length)∧(Upto (fun p:Plan=>p.splits.length≤40) s.plans (dflt 10) n6)) (fun(_,((_,_),_),n6,_)=>(s.plans.length-n6).toNat) ⟨_,rfl,by omega,Upto.zero⟩ (by simp only[NN];omega) ?_
   rintro r4 _ ⟨n6,rfl,hr4_0,hr4_1⟩ ihr4
   refine W_if (fun c4=>?_) fun c4=>?_
   ·refine W_ix (by omega) fun x7 hx7=>?_
    refine W_if (fun c5=>?_) fun c5=>?_
    ·refine qaa ?_
     simp
    ·refine qah (by omega) fun n8 hn8=>?_
     exact ihr4.use _ ⟨_,rfl,by omega,hr4_1.succ (by omega) hn8 (by rw[← hx7];omega)⟩ (by dsimp only;omega)
   ·refine qaa ?_
    exact fun _=>⟨by omega,hr1_1.all (by omega),hr4_1.all (by omega)⟩
theorem q7b {l:List Inp}(p0:l.length≤200)(p1:∀ i∈l,InT i):W (q0g l) (fun r=>∀ i∈l,bb i≤r):=by
 unfold q0g quE
 refine qaj (fun v=>∃ n3 n4,v=((),(),l,n3,n4,())∧(0≤n4∧n4≤l.length)∧(0≤n3∧n3≤281474976710656*n4+200)∧(FA (fun k=>bb (l.getD k (dflt 24))≤n3) n4)) (fun(_,_,_,n3,n4,_)=>(l.length-n4).toNat) ⟨_,_,rfl,by omega,by omega,FA.zero⟩ (by simp only[NN];omega) ?_
 rintro r1 _ ⟨n3,n4,rfl,hr1_0,hr1_1,hr1_2⟩ ihr1
 refine W_if (fun c1=>?_) fun c1=>?_
 ·refine W_ix (by omega) fun x5 hx5=>?_
  have g5:=qao (d:=dflt 24) (n:=n4) p1 (by omega)
  rw[← hx5] at g5
  obtain⟨g5,g6,g7⟩:=g5
  refine W_ix (by omega) fun x6 hx6=>?_
  have e6:x6=x5:=by rw[hx6,hx5]
  subst e6
  refine W_wi (by omega) fun n7 hn7=>?_
  have e7:n7=bb x6:=by rw[hn7];rfl
  refine W_wi (by omega) fun n8 hn8=>?_
  refine qah (by omega) fun n9 hn9=>?_
  exact ihr1.use _ ⟨_,_,rfl,by omega,by omega,FA.succ (fun k h=>Int.le_trans (hr1_2 k h) (by omega)) (by omega) hn9 (by rw[← hx5];omega)⟩ (by dsimp only;omega)
 ·refine qaa ?_
  intro i hi
  obtain⟨k,hk,e⟩:=List.getElem_of_mem hi
  have:=hr1_2 k (by omega)
  dsimp only at this
  rw[qdr hk,e] at this;exact this
theorem q7c {s:SiteT}{d:List UInt8}{l:List Inp}(p0:∀ i∈l,InT i):W (q0x s d l) (fun r=>r=true→FitOk s d l):=by
 unfold q0x quT
 refine qab (q7a) ?_
 rintro b1 hb1
 refine W_if (fun c1=>?_) fun c1=>?_
 ·refine qab (q7b (by omega) p0) ?_
  rintro n2 hn2
  refine qaa ?_
  intro h;simp only[decide_eq_true_eq] at h
  exact⟨hb1 (by cases b1<;>simp_all),by omega,by omega,fun i hi=>Int.le_trans (hn2 i hi) h⟩
 ·refine qaa ?_
  simp
theorem q48 {s:SiteT}{d:List UInt8}{l:List Inp}(p0:SWf s)(p1:∀ i∈l,InT i):W (qv3 s d l) (fun r=>r=true):=by
 unfold qv3 qqg
 refine qbv (alive_ok) ?_
 refine W_if (fun c1=>?_) fun c1=>?_
 ·exact absurd rfl c1
 ·refine qab (q7c p1) ?_
  rintro b2 hb2
  refine W_if (fun c2=>?_) fun c2=>?_
  ·refine qaa ?_
   rfl
  ·have ft:=hb2 (Classical.not_not.1 c2)
   have l200:=ft.2.2.1
   refine qab (q7o (qmo ft.1 p0 (by have:=ft.2.1;omega))) ?_
   rintro⟨n3,x4⟩ hn3
   try dsimp only at hn3
   obtain⟨hn3,en3⟩:=hn3
   refine qab (q47 ft.1 p0 (by have:=ft.2.1;omega) (by have:=ft.2.2.1;omega) (q6Y ft p1)) ?_
   rintro⟨z5,z6,n7⟩ hz5
   try dsimp only at hz5
   refine W_if (fun c3=>?_) fun c3=>?_
   ·rcases hz5 with ⟨n,y0,h1,h2,h3⟩|rn
    · rw[h2] at en3
      simp only[Option.some.injEq,Prod.mk.injEq] at en3 h3
      obtain⟨rfl,rfl⟩:=en3
      obtain⟨rfl,rfl,rfl⟩:=h3
      refine qaa ?_
      simpa using h1
    exfalso
    have sg:=rn.sg
    obtain⟨x0,e0,nw,e1⟩:=rn.new
    simp only[Prod.mk.injEq] at e1
    obtain⟨ez5,ez6,rfl⟩:=e1
    rw[e0] at en3
    simp only[Option.some.injEq,Prod.mk.injEq] at en3
    obtain⟨rfl,rfl⟩:=en3
    rw[ez6,q6Z] at c3
    omega
   ·have c30:n3=0:=by omega
    subst c30
    rcases hz5 with ⟨n,y0,h1,h2,h3⟩|rn
    · rw[h2] at en3
      simp only[Option.some.injEq,Prod.mk.injEq] at en3
      exact absurd en3.1 h1
    have sg:=rn.sg
    obtain⟨x0,e0,nw,e1⟩:=rn.new
    simp only[Prod.mk.injEq] at e1
    obtain⟨ez5,ez6,rfl⟩:=e1
    rw[e0] at en3
    simp only[Option.some.injEq,Prod.mk.injEq] at en3
    obtain⟨-,rfl⟩:=en3
    have lm:z6.length=l.length:=by rw[ez6];exact q6Z
    have hl:=sg.ok.times.2.2.1
    unfold Tk at hl
    refine qaj (fun v=>∃ n13 n14 n15,v=((),((s,()),()),l,true,z6,n13,n14,n15,())∧(0≤n15∧n15≤l.length)∧(n13=(XS s x0 l n15.toNat).mode)∧(-1≤n14∧n14<n15)∧((XS s x0 l n15.toNat).well≤n15-1-n14)) (fun(_,((_,_),_),_,_,_,n13,n14,n15,_)=>(l.length-n15).toNat) ⟨_,_,_,rfl,by omega,rfl,by omega,by show x0.well≤_;rw[nw.well];omega⟩ (by simp only[NN];omega) ?_
    rintro r8 _ ⟨n13,n14,n15,rfl,hr8_0,hr8_1,hr8_2,hr8_3⟩ ihr8
    have okX:=xs_ok sg nw.ok (q6Y ft p1)
    have rgX:=(okX n15.toNat (by omega)).rung
    refine W_if (fun c4=>?_) fun c4=>?_
    ·refine W_ix (by omega) fun x16 hx16=>?_
     have ran:=xs_ran sg nw.ok (q6Y ft p1) (k:=n15.toNat) (by omega)
     rw[← hx16] at ran
     have ok2:=ran.ok
     have rg2:=ok2.rung
     have md:=mode_get (s:=s) (x:=x0) (l:=l) (k:=n15.toNat) ok2 (by omega)
     rw[← ez6] at md
     have st:=up_step ran hr8_1 hr8_3 hr8_2
     have en:(n15+1).toNat=n15.toNat+1:=by omega
     refine qaf (by first|omega|(rw[List.length_drop];omega)|(simp<;>omega)) ?_
     refine qac fun x17 hx17=>?_
     rw[← hx17] at md
     refine qaf (by first|omega|(rw[List.length_drop];omega)|(simp<;>omega)) ?_
     refine qac fun x18 hx18=>?_
     have e18:x18=x17:=by rw[hx18,hx17]
     refine W_wb (by omega) fun n19 hn19=>?_
     refine W_wi (by omega) fun n20 hn20=>?_
     refine W_if (fun c7=>?_) fun c7=>?_
     ·refine qaa ?_
      exfalso
      rw[e18] at c7
      obtain⟨⟨h1,h2⟩,h3⟩:=c7
      have:=st.2.2 h1 (by omega)
      omega
     ·refine W_ix (by omega) fun x21 hx21=>?_
      have e21:x21=x16:=by rw[hx21,hx16]
      refine qaf (by first|omega|(rw[List.length_drop];omega)|(simp<;>omega)) ?_
      refine qac fun x22 hx22=>?_
      have e22:x22=x17:=by rw[hx22,hx17]
      refine W_if (fun c9=>?_) fun c9=>?_
      ·rw[e21,e22,md] at c9
       refine W_ix (by omega) fun x25 hx25=>?_
       have e25:x25=x17:=by rw[hx25,hx17]
       refine qah (by omega) fun n26 hn26=>?_
       exact ihr8.use _ ⟨_,_,_,rfl,by omega,by rw[e25,md,hn26,en],by omega,by rw[hn26,en];have:=st.1 c9;omega⟩ (by dsimp only;omega)
      ·rw[e21,e22,md] at c9
       refine W_ix (by omega) fun x23 hx23=>?_
       have e25:x23=x17:=by rw[hx23,hx17]
       refine qah (by omega) fun n24 hn24=>?_
       exact ihr8.use _ ⟨_,_,_,rfl,by omega,by rw[e25,md,hn24,en],by omega,by rw[hn24,en];have:=st.2.1 c9;omega⟩ (by dsimp only;omega)
    ·refine qaa ?_
     rfl
end Go.Proofs.YtcdppfnjidlknaaGreatDoor
namespace Go.Eng
open Go Go.ChangeShapes
section
variable {H : Type} {enc' : TypeId × Value → H} {P : Program} {w : World} {base : Nat} {held : Bool}
theorem qjQ {t:TypeId} {fs:Array Field} (ht:P.underlying t=some (.struct fs)) (ts:List TypeId) (hfs:(fs.toList.map fun f=>(f.offset,f.type))=(List.range ts.length).zip ts) (hone:∀ u∈ts,P.cellsOf u=1) (hsz:P.cellsOf t=ts.length)
  {n:Nat} {cs:List Value} {y:DataW H×List MemPlace} (h:DataW.trod enc' P w base (fun _=>true) held n t cs=some y) :
  ∃ (xs:List (DataW H×List MemPlace)) (m:Nat),y.1=.agg (xs.map (·.1))∧xs.length=ts.length∧cs.length=ts.length∧∀ (i:Nat) (u:TypeId),ts[i]? = some u→∃ c yi,cs[i]? = some c∧xs[i]? = some yi∧DataW.trod enc' P w base (fun _=>true) held m u [c]=some yi:=by
 obtain⟨xs,m,-,rfl,hl,hlen,hf⟩:=DataW.trod_struct ht h
 have fsz:fs.size=ts.length:=by have:=congrArg List.length hfs;simpa using this
 refine⟨xs,m,rfl,by omega,by omega,fun i u hu=>?_⟩
 have hi:i<ts.length:=(List.getElem?_eq_some_iff.1 hu).1
 have hz:((List.range ts.length).zip ts)[i]? = some (i,u):=by
  rw[List.getElem?_zip_eq_some]
  exact⟨by rw[List.getElem?_range hi],hu⟩
 rw[← hfs,List.getElem?_map] at hz
 obtain⟨f,hf1,hf2⟩:=Option.map_eq_some_iff.1 hz
 simp only[Prod.mk.injEq] at hf2
 have hf1':fs[i]? = some f:=by simpa using hf1
 have hfi:=hf i f hf1'
 rw[hf2.1,hf2.2,hone u (List.mem_of_getElem? hu)] at hfi
 have hc:i<cs.length:=by omega
 have hx:i<xs.length:=by omega
 have e:(cs.drop i).take 1=[cs[i]]:=by rw[List.drop_eq_getElem_cons hc];rfl
 rw[e] at hfi
 exact⟨cs[i],xs[i],List.getElem?_eq_getElem hc,List.getElem?_eq_getElem hx,by rw[hfi,List.getElem?_eq_getElem hx]⟩
theorem qdo {m:Nat}{u:TypeId} {κ:IntKind}{c:Value}{y:DataW H×List MemPlace}(hu:P.underlying u=some (.int κ))(h:DataW.trod enc' P w base (fun _=>true) held m u [c]=some y):∃ a,c=.int κ a∧kwf κ a:=by
 obtain⟨a,e,-,w0⟩:=DataW.trod_int hu h
 simp at e
 exact⟨a,e,by simpa [Lit.wf,kwf] using w0⟩
theorem q1B {m:Nat}{u:TypeId}{c:Value}{y:DataW H×List MemPlace}(hu:P.underlying u=some .bool)(h:DataW.trod enc' P w base (fun _=>true) held m u [c]=some y):∃ a,c=.bool a:=by
 obtain⟨a,e,-⟩:=DataW.trod_bool hu h
 simp at e
 exact⟨a,e⟩
def ZT {α:Type}(d:DataW H)(x:α):Prop:=True
theorem q7t {t t1 t2 t3:TypeId} {fs:Array Field} (ht:P.underlying t=some (.struct fs)) (hsz:P.cellsOf t=3) (hfs:(fs.toList.map fun f=>(f.offset,f.type))=[(0,t1),(1,t2),(2,t3)]) (h1:P.underlying t1=some (.int .u8)) (h2:P.underlying t2=some (.int .i64)) (h3:P.underlying t3=some (.int .i64))
  (z1:P.cellsOf t1=1) (z2:P.cellsOf t2=1) (z3:P.cellsOf t3=1):qbE enc' P w base held 17 (ZT (α:=Grp)) t:=fun n cs y h=>by
 obtain⟨xs,m,-,-,hl,hf⟩:=qjQ ht [t1,t2,t3] hfs (by intro u hu;simp at hu;rcases hu with rfl|rfl|rfl<;>assumption) hsz h
 match cs,hl with
 | [c0,c1,c2],_ =>
  obtain⟨a,y0,e0,-,g0⟩:=hf 0 _ rfl
  obtain⟨b,y1,e1,-,g1⟩:=hf 1 _ rfl
  obtain⟨c,y2,e2,-,g2⟩:=hf 2 _ rfl
  cases e0;cases e1;cases e2
  obtain⟨a0,rfl,k0⟩:=qdo h1 g0
  obtain⟨a1,rfl,k1⟩:=qdo h2 g1
  obtain⟨a2,rfl,k2⟩:=qdo h3 g2
  refine⟨⟨a0,a1,a2⟩,trivial,rfl,fun j u hv=>?_⟩
  match j,hv with
  |0,hv=>cases hv;exact⟨rfl,.int k0⟩
  |1,hv=>cases hv;exact⟨rfl,.int k1⟩
  |2,hv=>cases hv;exact⟨rfl,.int k2⟩
  |j+3,hv=>simp at hv
def ZPhs (d:DataW H)(x:Phs):Prop:=0≤x.groupsf∧x.groupsf<4294967296
theorem q7u {t t1 t2 t3 t4 t5:TypeId} {fs:Array Field} (ht:P.underlying t=some (.struct fs)) (hsz:P.cellsOf t=5) (hfs:(fs.toList.map fun f=>(f.offset,f.type))=[(0,t1),(1,t2),(2,t3),(3,t4),(4,t5)]) (h1:P.underlying t1=some (.int .u32)) (h2:P.underlying t2=some (.int .i64)) (h3:P.underlying t3=some (.int .i64)) (h4:P.underlying t4=some (.int .i64)) (h5:P.underlying t5=some .bool)
  (z1:P.cellsOf t1=1) (z2:P.cellsOf t2=1) (z3:P.cellsOf t3=1) (z4:P.cellsOf t4=1) (z5:P.cellsOf t5=1):qbE enc' P w base held 18 ZPhs t:=fun n cs y h=>by
 obtain⟨xs,m,-,-,hl,hf⟩:=qjQ ht [t1,t2,t3,t4,t5] hfs (by intro u hu;simp at hu;rcases hu with rfl|rfl|rfl|rfl|rfl<;>assumption) hsz h
 match cs,hl with
 | [c0,c1,c2,c3,c4],_ =>
  obtain⟨a,y0,e0,-,g0⟩:=hf 0 _ rfl
  obtain⟨b,y1,e1,-,g1⟩:=hf 1 _ rfl
  obtain⟨c,y2,e2,-,g2⟩:=hf 2 _ rfl
  obtain⟨d,y3,e3,-,g3⟩:=hf 3 _ rfl
  obtain⟨e,y4,e4,-,g4⟩:=hf 4 _ rfl
  cases e0;cases e1;cases e2;cases e3;cases e4
  obtain⟨a0,rfl,k0⟩:=qdo h1 g0
  obtain⟨a1,rfl,k1⟩:=qdo h2 g1
  obtain⟨a2,rfl,k2⟩:=qdo h3 g2
  obtain⟨a3,rfl,k3⟩:=qdo h4 g3
  obtain⟨a4,rfl⟩:=q1B h5 g4
  refine⟨⟨a0,a1,a2,a3,a4⟩,(show 0≤a0∧a0<4294967296 from by have:0≤a0∧a0≤4294967295:=k0;omega),rfl,fun j u hv=>?_⟩
  match j,hv with
  |0,hv=>cases hv;exact⟨rfl,.int k0⟩
  |1,hv=>cases hv;exact⟨rfl,.int k1⟩
  |2,hv=>cases hv;exact⟨rfl,.int k2⟩
  |3,hv=>cases hv;exact⟨rfl,.int k3⟩
  |4,hv=>cases hv;exact⟨rfl,.bool⟩
  |j+5,hv=>simp at hv
theorem q7v {t t1 t2 t3 t4:TypeId} {fs:Array Field} (ht:P.underlying t=some (.struct fs)) (hsz:P.cellsOf t=4) (hfs:(fs.toList.map fun f=>(f.offset,f.type))=[(0,t1),(1,t2),(2,t3),(3,t4)]) (h1:P.underlying t1=some (.int .i64)) (h2:P.underlying t2=some (.int .i64)) (h3:P.underlying t3=some (.int .i64)) (h4:P.underlying t4=some (.int .i64))
  (z1:P.cellsOf t1=1) (z2:P.cellsOf t2=1) (z3:P.cellsOf t3=1) (z4:P.cellsOf t4=1):qbE enc' P w base held 19 (ZT (α:=EyeT)) t:=fun n cs y h=>by
 obtain⟨xs,m,-,-,hl,hf⟩:=qjQ ht [t1,t2,t3,t4] hfs (by intro u hu;simp at hu;rcases hu with rfl|rfl|rfl|rfl<;>assumption) hsz h
 match cs,hl with
 | [c0,c1,c2,c3],_ =>
  obtain⟨a,y0,e0,-,g0⟩:=hf 0 _ rfl
  obtain⟨b,y1,e1,-,g1⟩:=hf 1 _ rfl
  obtain⟨c,y2,e2,-,g2⟩:=hf 2 _ rfl
  obtain⟨d,y3,e3,-,g3⟩:=hf 3 _ rfl
  cases e0;cases e1;cases e2;cases e3
  obtain⟨a0,rfl,k0⟩:=qdo h1 g0
  obtain⟨a1,rfl,k1⟩:=qdo h2 g1
  obtain⟨a2,rfl,k2⟩:=qdo h3 g2
  obtain⟨a3,rfl,k3⟩:=qdo h4 g3
  refine⟨⟨a0,a1,a2,a3⟩,trivial,rfl,fun j u hv=>?_⟩
  match j,hv with
  |0,hv=>cases hv;exact⟨rfl,.int k0⟩
  |1,hv=>cases hv;exact⟨rfl,.int k1⟩
  |2,hv=>cases hv;exact⟨rfl,.int k2⟩
  |3,hv=>cases hv;exact⟨rfl,.int k3⟩
  |j+4,hv=>simp at hv
def ZInp (d:DataW H)(x:Inp):Prop:=(0≤x.eyesf∧x.eyesf<4294967296)∧∃ d0 d1 d2 r,d=.agg (d0::d1::d2::r)∧DSz Z0 d0 x.bytesf∧DSz Z0 d2 x.backf
theorem q7w {t t1 t2 t3 t4 t5 t6 t7 e:TypeId} {fs:Array Field} (ht:P.underlying t=some (.struct fs)) (hsz:P.cellsOf t=7) (hfs:(fs.toList.map fun f=>(f.offset,f.type))=[(0,t1),(1,t2),(2,t3),(3,t4),(4,t5),(5,t6),(6,t7)]) (h1:P.underlying t1=some (.slice e)) (h2:P.underlying t2=some (.int .u32)) (h3:P.underlying t3=some (.slice e)) (h4:P.underlying t4=some .bool) (h5:P.underlying t5=some (.int .i64)) (h6:P.underlying t6=some (.int .i64)) (h7:P.underlying t7=some .bool) (he:P.underlying e=some (.int .u8))
  (z1:P.cellsOf t1=1) (z2:P.cellsOf t2=1) (z3:P.cellsOf t3=1) (z4:P.cellsOf t4=1) (z5:P.cellsOf t5=1) (z6:P.cellsOf t6=1) (z7:P.cellsOf t7=1) (ze:P.cellsOf e=1):qbE enc' P w base held 24 ZInp t:=fun n cs y h=>by
 obtain⟨xs,m,ey,hxl,hl,hf⟩:=qjQ ht [t1,t2,t3,t4,t5,t6,t7] hfs (by intro u hu;simp at hu;rcases hu with rfl|rfl|rfl|rfl|rfl|rfl|rfl<;>assumption) hsz h
 match cs,hl with
 | [c0,c1,c2,c3,c4,c5,c6],_ =>
  obtain⟨a,y0,e0,x0,g0⟩:=hf 0 _ rfl
  obtain⟨b,y1,e1,x1,g1⟩:=hf 1 _ rfl
  obtain⟨c,y2,e2,x2,g2⟩:=hf 2 _ rfl
  obtain⟨d,y3,e3,x3,g3⟩:=hf 3 _ rfl
  obtain⟨e',y4,e4,x4,g4⟩:=hf 4 _ rfl
  obtain⟨f',y5,e5,x5,g5⟩:=hf 5 _ rfl
  obtain⟨g',y6,e6,x6,g6⟩:=hf 6 _ rfl
  cases e0;cases e1;cases e2;cases e3;cases e4;cases e5;cases e6
  obtain⟨v0,b0,q0,o0,r0,s0⟩:=qa5 (c:=0) (by decide) h1 ze (qi4 he) g0
  obtain⟨a1,rfl,k1⟩:=qdo h2 g1
  obtain⟨v2,b2,q2,o2,r2,s2⟩:=qa5 (c:=0) (by decide) h3 ze (qi4 he) g2
  obtain⟨a3,rfl⟩:=q1B h4 g3
  obtain⟨a4,rfl,k4⟩:=qdo h5 g4
  obtain⟨a5,rfl,k5⟩:=qdo h6 g5
  obtain⟨a6,rfl⟩:=q1B h7 g6
  simp at q0 q2
  subst q0;subst q2
  match xs,hxl with
  | [p0,p1,p2,p3,p4,p5,p6],_ =>
   cases x0;cases x2
   refine⟨⟨b0,a1,b2,a3,a4,a5,a6⟩,⟨(show 0≤a1∧a1<4294967296 from by have:0≤a1∧a1≤4294967295:=k1;omega),_,_,_,_,ey,s0,s2⟩,rfl,fun j u hv=>?_⟩
   match j,hv with
   |0,hv=>cases hv;exact⟨o0,r0⟩
   |1,hv=>cases hv;exact⟨rfl,.int k1⟩
   |2,hv=>cases hv;exact⟨o2,r2⟩
   |3,hv=>cases hv;exact⟨rfl,.bool⟩
   |4,hv=>cases hv;exact⟨rfl,.int k4⟩
   |5,hv=>cases hv;exact⟨rfl,.int k5⟩
   |6,hv=>cases hv;exact⟨rfl,.bool⟩
   |j+7,hv=>simp at hv
theorem q31 {α:Type}{Z:DataW H→α→Prop}{Q:α→Prop}(hq:∀ d x,Z d x→Q x):∀ (el:List (DataW H)) (xs:List α),ZAll Z el xs→∀ x∈xs,Q x
 | [],[],_,x,hx=>by simp at hx
 |d::el,y::xs,h,x,hx=>by
  rcases List.mem_cons.1 hx with rfl|hx
  ·
   exact hq _ _ h.1
  ·
   exact q31 hq el xs h.2 x hx
theorem dsz_all {α:Type}{Z:DataW H→α→Prop}{Q:α→Prop}(hq:∀ d x,Z d x→Q x){d:DataW H}{xs:List α}(h:DSz Z d xs):∀ x∈xs,Q x:=by
 rcases h with rfl|⟨el,sp,-,h⟩
 ·
  intro x hx;simp at hx
 ·
  exact q31 hq el xs h
theorem q7x {α:Type}{Z:DataW H→α→Prop}{P:Program}{t e:TypeId}{d:DataW H}{xs:List α}(h:DSz Z d xs)(ht:P.underlying t=some (.slice e))(hb:0<P.bytesOf e)(hn:∀ n,n∈DataW.weights P t d→n≤reachBytes):xs.length≤140737488355328:=by
 rcases h with rfl|⟨el,sp,rfl,hz⟩
 ·
  simp
 ·
  have l:=q2e el xs hz
  have:=hn ((el.length+sp.length)*P.bytesOf e) (by simp[DataW.weights,ht])
  have r:reachBytes≤140737488355328:=by decide
  have:el.length+sp.length≤(el.length+sp.length)*P.bytesOf e:=Nat.le_mul_of_pos_right _ hb
  omega
def InB (x:Inp):Prop:=(0≤x.eyesf∧x.eyesf<4294967296)∧x.bytesf.length≤140737488355328∧x.backf.length≤140737488355328
theorem q7y {P:Program}{t t1 t2 t3 e:TypeId}{fs:Array Field}{r:List TypeId}(ht:P.underlying t=some (.struct fs))(hf:fs.toList.map (·.type)=t1::t2::t3::r)(h1:P.underlying t1=some (.slice e))(h3:P.underlying t3=some (.slice e))(hb:0<P.bytesOf e):∀ (el:List (DataW H)) (xs:List Inp),ZAll ZInp el xs→(∀ n,n∈DataW.weightsAll P t el→n≤reachBytes)→∀ x∈xs,InB x
 | [],[],_,_,x,hx=>by simp at hx
 | [],_::_,h,_,_,_=>h.elim
 |_::_,[],h,_,_,_=>h.elim
 |d::el,y::xs,h,hn,x,hx=>by
  rcases List.mem_cons.1 hx with rfl|hx
  ·
   obtain⟨hy,d0,d1,d2,rr,rfl,z0,z2⟩:=h.1
   refine⟨hy,q7x z0 h1 hb fun n hm=>hn n ?_,q7x z2 h3 hb fun n hm=>hn n ?_⟩
   ·
    simp only[DataW.weightsAll,DataW.weights,ht,hf,DataW.weightsEach,List.mem_append];exact .inl (.inl hm)
   ·
    simp only[DataW.weightsAll,DataW.weights,ht,hf,DataW.weightsEach,List.mem_append];exact .inl (.inr (.inr (.inl hm)))
  ·
   exact q7y ht hf h1 h3 hb el xs h.2 (fun n hm=>hn n (by simp only[DataW.weightsAll,List.mem_append];exact .inr hm)) x hx
theorem q7z {P:Program}{ts:List TypeId}{ds:List (DataW H)}(h:(DataW.weightsEach P ts ds).all (·≤reachBytes)=true){j:Nat}{t' t t1 t2 t3 e:TypeId}{fs:Array Field}{r:List TypeId}{d:DataW H}{xs:List Inp}(hj:ts[j]? = some t')(hd:ds[j]? = some d)(hu:P.underlying t'=some (.slice t))(ht:P.underlying t=some (.struct fs))(hf:fs.toList.map (·.type)=t1::t2::t3::r)(h1:P.underlying t1=some (.slice e))(h3:P.underlying t3=some (.slice e))(hb:0<P.bytesOf e)(z:DSz ZInp d xs):∀ x∈xs,InB x:=by
 rcases z with rfl|⟨el,sp,rfl,hz⟩
 ·
  intro x hx;simp at hx
 ·
  refine q7y ht hf h1 h3 hb el xs hz fun n hn=>?_
  have:=List.all_eq_true.1 h n (DataW.weights_mem_each hj hd n (by simp[DataW.weights,hu,hn]))
  simpa using this
end
end Go.Eng
namespace Go.Proofs.YtcdppfnjidlknaaGreatDoor
open Go Go.Eng Go.ChangeShapes Go.WideShapes Go.ChangeAt Go.RowKit
abbrev qzH:List (String×DataW Unit):=[("math/bits.deBruijn32tab",Rows.laid_math_bits_deBruijn32tab),("math/bits.deBruijn64tab",Rows.laid_math_bits_deBruijn64tab)]
def tabZ:List Int:=Lib.deBruijn32tab.map fun n:Nat=>(n:Int)
def tabY:List Int:=Lib.deBruijn64tab.map fun n:Nat=>(n:Int)
theorem gT:Tryz.prog.globalNamed "math/bits.deBruijn32tab" = some 0:=by kernel_rfl
theorem tT:(Tryz.prog.globals[0]?).map (·.type)=some 292:=by kernel_rfl
theorem gY:Tryz.prog.globalNamed "math/bits.deBruijn64tab" = some 2:=by kernel_rfl
theorem tY:(Tryz.prog.globals[2]?).map (·.type)=some 308:=by kernel_rfl
theorem lay_is:Rows.laid_math_bits_deBruijn32tab (H:=Unit)=Lib.tabData .u8 tabZ:=rfl
theorem lay_isY:Rows.laid_math_bits_deBruijn64tab (H:=Unit)=Lib.tabData .u8 tabY:=rfl
theorem qud {P:Program} {W:World} {x:String×DataW Unit} {name:String} {k:IntKind} {zs:List Int} {rest:List (String×DataW Unit)} {g:Nat} {t e:TypeId} {n:Nat}
  (hg:P.globalNamed name=some g) (hty:(P.globals[g]?).map (·.type)=some t) (ht:P.underlying t=some (.array n e)) (he:P.underlying e=some (.int k)) (hce:P.cellsOf e=1) (hct:P.cellsOf t=n)
  (h:laidMet P (x::(name,Lib.tabData k zs)::rest) W):Lib.TabIs P W name k zs:=by
 obtain⟨ps,⟨_,_,_,_,_,_,_,_,_,_,⟨g',t',cs,fuel,p,q,hg',ht',hvar,hd,_,_⟩,_⟩,_⟩:=h
 obtain rfl:=Option.some.inj (hg.symm.trans hg')
 obtain rfl:=Option.some.inj (hty.symm.trans ht')
 unfold Lib.TabIs
 rw[hvar,← Lib.cells_of_tab ht he hce hct hd]
theorem qnO {W:World}(h:laidMetH Tryz.prog qzH W):Lib.TabIs Tryz.prog W "math/bits.deBruijn32tab" .u8 tabZ∧Lib.TabIs Tryz.prog W "math/bits.deBruijn64tab" .u8 tabY:=by
 rw[MakeChecks.laidMetH_plain _ _ _ (by kernel_rfl)] at h
 unfold qzH at h
 rw[lay_is,lay_isY] at h
 exact⟨Lib.tabIs_of_head (g:=0) (t:=292) (e:=5) (n:=32) gT tT Tryz.underlying292 Tryz.underlying5 (by kernel_rfl) (by kernel_rfl) h,qud (g:=2) (t:=308) (e:=5) (n:=64) gY tY Tryz.underlying308 Tryz.underlying5 (by kernel_rfl) (by kernel_rfl) h⟩
theorem kt_of {W:World}{b n:Nat}{name:String}{tab:List Nat}(hg:Tryz.prog.globalNamed name=some b)(hn:tab.length=n)(h0:0<n)(ht:Lib.TabIs Tryz.prog W name .u8 (tab.map fun n:Nat=>(n:Int))):Kt b n tab W (· < W.heap.size):=by
 have hc:∀ j,j<n→W.cell? ⟨b,j,none⟩=some (.int .u8 ((tab.getD j 0:Nat):Int)):=fun j hj=>by
  have:=ht.cell hg j (by simpa using hn▸hj)
  rw[this]
  have e:(tab.map fun n:Nat=>(n:Int)).getD j 0=((tab.getD j 0:Nat):Int):=by
   rw[List.getD_eq_getElem?_getD,List.getD_eq_getElem?_getD,List.getElem?_map]
   cases tab[j]?<;>rfl
  rw[e]
 refine⟨?_,hc⟩
 have h1:=hc 0 h0
 rcases Nat.lt_or_ge b W.heap.size with h|h
 ·
  exact h
 ·
  exfalso
  unfold World.cell? at h1
  rw[show W.heap[(⟨b,0,none⟩:Addr).block]? = none from Array.getElem?_eq_none h] at h1
  simp at h1
theorem q3P {W:World}(h:laidMetH Tryz.prog qzH W):Kc W (· < W.heap.size) :=
 ⟨kt_of gT rfl (by decide) (qnO h).1,kt_of gY rfl (by decide) (qnO h).2⟩
theorem door_met (os:Os)(args:Array Value):laidMetH Tryz.prog qzH ((World.doorLaid Tryz.prog 400 os).forCall (fun _ _=>0) ⟨#[],args,[]⟩).memory :=
 laidMetH_of_parts3 (fuel:=8) (laidMet_of_run' 8 (by kernel_rfl) (by kernel_rfl)) (by kernel_rfl) (by kernel_rfl)
end Go.Proofs.YtcdppfnjidlknaaGreatDoor
namespace Go.Proofs.YtcdppfnjidlknaaGreatDoor
open Go.ChangeShapes Go.WideShapes Go.ChangeAt Go.RowKit Go.Eng
theorem q5P {s:SiteT}{d:List UInt8}{l:List Inp}(hs:SWf s)(hl:∀ x∈l,InB x):qqh.to.run [.agg (enc 25 s),.agg [.sl 0 d],.sl 24 l] [] (fun r _ _=>r=.bool true):=by
 obtain⟨r,h1,rfl⟩:=q48 hs hl
 have e:qqh.run DOps.std AV [.agg (enc 25 s),.agg [.sl 0 d],.sl 24 l] [] (fun x _ _=>some x)=qt2 (qv3 s d l) fun b=>some (.bool b):=by kernel_rfl
 exact⟨AV,fun x _ _=>some x,.bool true,by rw[e,h1];rfl,fun x _ _ h=>(Option.some.inj h)⟩
theorem ownQ7:ownKnob Tryz.prog.godebug=none:=by kernel_rfl
theorem q5Q:laidOutB Tryz.prog=true:=by kernel_rfl
set_option maxHeartbeats 800000 in
set_option maxRecDepth 100000 in
theorem qzF (os:Os) (started:os.Started) (H:Type) (enc:TypeId×Value→H) :
  ReturnsInHanded {} Tryz.checked os 7 .any (fun w args=>(Rows.topUpSpec.pre enc Tryz.prog Tryz.f7 [] false w args∧laidMetH Tryz.prog qzH w)∧sizedMet enc Tryz.prog Tryz.f7 (OpenSpec.ofChange Rows.topUpSpec) false w args) (Rows.topUpSpec.post enc Tryz.prog Tryz.f7 false true false false):=by
 refine returnsInHanded_of_change_and (C:=Tryz.checked) (X:=fun w _=>laidMetH Tryz.prog qzH w) (fun _ _ _ hh h=>h.of_heap hh) ownQ7 started (by kernel_rfl) Tryz.func7
  (ChangeSpec.witness_shaped (enc:=enc) (C:=Tryz.checked) (os:=os) (X:=fun w _=>laidMetH Tryz.prog qzH w) false (World.doorLaid Tryz.prog 400 os) #[.agg #[.int .i64 0,.slice none 0 0,.slice none 0 0,.slice none 0 0,.slice none 0 0,.slice none 0 0,.int .i64 0,.int .i64 0,.int .i64 0,.int .i64 0,.int .i64 0,.slice none 0 0],.agg #[.slice none 0 0],.slice none 0 0] 8 rfl (World.shaped_of_RefB (by kernel_rfl) (by kernel_rfl)) (by kernel_rfl) (by kernel_rfl) (by kernel_rfl) (door_met os _)) ?_
 intro W base args ds gs before hval0 hW hcnd hsz hL _
 have hval:∀ (j:Nat) t v,Tryz.f7.params[j]? = some t→args[j]? = some v→Value.okWide Tryz.prog W .any base t v:=hval0
 have hW':=hW
 obtain⟨p,q,hA0,hV,rfl,hfz,hnd⟩:=hW
 have hA:DataW.TrodAll enc Tryz.prog W 0 (fun _=>true) true Tryz.f7.params.toList args.toList ds p:=hA0
 rw[Tryz.params7] at hA hval
 obtain⟨v0,vs0,d0,ds0,p0,q0,hargs,rfl,rfl,h0,r0⟩:=trodAll_cons hA
 obtain⟨v1,vs1,d1,ds1,p1,q1,rfl,rfl,rfl,h1,r1⟩:=trodAll_cons r0
 obtain⟨v2,vs2,d2,ds2,p2,q2,rfl,rfl,rfl,h2,r2⟩:=trodAll_cons r1
 obtain⟨rfl,rfl,rfl⟩:=trodAll_nil r2
 obtain rfl:args=#[v0,v1,v2]:=by cases args;simp_all
 obtain⟨rfl,rfl⟩:=trodVars_none hV
 have k0:=h0
 have lt0:∀ x∈p0,x.block<W.heap.size:=by obtain⟨m,hm⟩:=k0;exact DataW.trod_lt m _ _ _ hm
 obtain⟨fuel0,hf0⟩:=h0
 obtain⟨cs0,rfl,hsz0,hcs0⟩:=qwk Tryz.underlying29 (by kernel_rfl) (by kernel_rfl) (hval 0 29 v0 rfl rfl) hf0
 obtain⟨c0_0,c0_1,c0_2,c0_3,c0_4,c0_5,c0_6,c0_7,c0_8,c0_9,c0_10,c0_11,rfl⟩:∃ b0 b1 b2 b3 b4 b5 b6 b7 b8 b9 b10 b11,cs0=#[b0,b1,b2,b3,b4,b5,b6,b7,b8,b9,b10,b11]:=by
  exact arr12 hsz0
 obtain⟨n0_0,y0_0,hy0_0⟩:=hcs0 0 _ _ rfl rfl
 obtain⟨a0_0,e0_0,-,w0_0⟩:=DataW.trod_int Tryz.underlying3 hy0_0
 obtain rfl:c0_0=.int .i64 a0_0:=by simpa using e0_0
 obtain⟨n0_1,y0_1,hy0_1⟩:=hcs0 1 _ _ rfl rfl
 obtain⟨u0_1,xs0_1,e0_1,o0_1,w0_1,z0_1⟩:=qa5 (c:=17) (by decide) Tryz.underlying22 (by kernel_rfl) (q7t Tryz.underlying87 (by kernel_rfl) rfl Tryz.underlying5 Tryz.underlying3 Tryz.underlying3 (by kernel_rfl) (by kernel_rfl) (by kernel_rfl)) hy0_1
 obtain rfl:c0_1=u0_1:=by simpa using e0_1
 obtain⟨n0_2,y0_2,hy0_2⟩:=hcs0 2 _ _ rfl rfl
 obtain⟨u0_2,xs0_2,e0_2,o0_2,w0_2,-⟩:=qa5 (c:=2) (by decide) Tryz.underlying23 (by kernel_rfl) (q5O Tryz.underlying41) hy0_2
 obtain rfl:c0_2=u0_2:=by simpa using e0_2
 obtain⟨n0_3,y0_3,hy0_3⟩:=hcs0 3 _ _ rfl rfl
 obtain⟨u0_3,xs0_3,e0_3,o0_3,w0_3,z0_3⟩:=qa5 (c:=7) (by decide) Tryz.underlying24 (by kernel_rfl) (q3N Tryz.underlying66 Tryz.underlying3 (by kernel_rfl)) hy0_3
 obtain rfl:c0_3=u0_3:=by simpa using e0_3
 obtain⟨n0_4,y0_4,hy0_4⟩:=hcs0 4 _ _ rfl rfl
 obtain⟨u0_4,xs0_4,e0_4,o0_4,w0_4,z0_4⟩:=qa5 (c:=18) (by decide) Tryz.underlying25 (by kernel_rfl) (q7u Tryz.underlying99 (by kernel_rfl) rfl Tryz.underlying41 Tryz.underlying3 Tryz.underlying3 Tryz.underlying3 Tryz.underlying4 (by kernel_rfl) (by kernel_rfl) (by kernel_rfl) (by kernel_rfl) (by kernel_rfl)) hy0_4
 obtain rfl:c0_4=u0_4:=by simpa using e0_4
 obtain⟨n0_5,y0_5,hy0_5⟩:=hcs0 5 _ _ rfl rfl
 obtain⟨u0_5,xs0_5,e0_5,o0_5,w0_5,z0_5⟩:=qa5 (c:=19) (by decide) Tryz.underlying26 (by kernel_rfl) (q7v Tryz.underlying186 (by kernel_rfl) rfl Tryz.underlying3 Tryz.underlying3 Tryz.underlying3 Tryz.underlying3 (by kernel_rfl) (by kernel_rfl) (by kernel_rfl) (by kernel_rfl)) hy0_5
 obtain rfl:c0_5=u0_5:=by simpa using e0_5
 obtain⟨n0_6,y0_6,hy0_6⟩:=hcs0 6 _ _ rfl rfl
 obtain⟨a0_6,e0_6,-,w0_6⟩:=DataW.trod_int Tryz.underlying3 hy0_6
 obtain rfl:c0_6=.int .i64 a0_6:=by simpa using e0_6
 obtain⟨n0_7,y0_7,hy0_7⟩:=hcs0 7 _ _ rfl rfl
 obtain⟨a0_7,e0_7,-,w0_7⟩:=DataW.trod_int Tryz.underlying3 hy0_7
 obtain rfl:c0_7=.int .i64 a0_7:=by simpa using e0_7
 obtain⟨n0_8,y0_8,hy0_8⟩:=hcs0 8 _ _ rfl rfl
 obtain⟨a0_8,e0_8,-,w0_8⟩:=DataW.trod_int Tryz.underlying3 hy0_8
 obtain rfl:c0_8=.int .i64 a0_8:=by simpa using e0_8
 obtain⟨n0_9,y0_9,hy0_9⟩:=hcs0 9 _ _ rfl rfl
 obtain⟨a0_9,e0_9,-,w0_9⟩:=DataW.trod_int Tryz.underlying3 hy0_9
 obtain rfl:c0_9=.int .i64 a0_9:=by simpa using e0_9
 obtain⟨n0_10,y0_10,hy0_10⟩:=hcs0 10 _ _ rfl rfl
 obtain⟨a0_10,e0_10,-,w0_10⟩:=DataW.trod_int Tryz.underlying3 hy0_10
 obtain rfl:c0_10=.int .i64 a0_10:=by simpa using e0_10
 obtain⟨n0_11,y0_11,hy0_11⟩:=hcs0 11 _ _ rfl rfl
 obtain⟨u0_11,xs0_11,e0_11,o0_11,w0_11,-⟩:=qa5 (c:=10) (by decide) Tryz.underlying27 (by kernel_rfl) (q3O Tryz.underlying68 (by kernel_rfl) rfl Tryz.underlying3 Tryz.underlying3 Tryz.underlying66 Tryz.underlying3 (by kernel_rfl) (by kernel_rfl) (by kernel_rfl) (by kernel_rfl)) hy0_11
 obtain rfl:c0_11=u0_11:=by simpa using e0_11
 have k1:=h1
 have lt1:∀ x∈p1,x.block<W.heap.size:=by obtain⟨m,hm⟩:=k1;exact DataW.trod_lt m _ _ _ hm
 obtain⟨fuel1,hf1⟩:=h1
 obtain⟨cs1,rfl,hsz1,hcs1⟩:=qwk Tryz.underlying32 (by kernel_rfl) (by kernel_rfl) (hval 1 32 v1 rfl rfl) hf1
 obtain⟨c1_0,rfl⟩:∃ b0,cs1=#[b0]:=by
  exact arr1 hsz1
 obtain⟨n1_0,y1_0,hy1_0⟩:=hcs1 0 _ _ rfl rfl
 obtain⟨u1_0,xs1_0,e1_0,o1_0,w1_0,-⟩:=qa5 (c:=0) (by decide) Tryz.underlying30 (by kernel_rfl) (qi4 Tryz.underlying5) hy1_0
 obtain rfl:c1_0=u1_0:=by simpa using e1_0
 have k2:=h2
 have lt2:∀ x∈p2,x.block<W.heap.size:=by obtain⟨m,hm⟩:=k2;exact DataW.trod_lt m _ _ _ hm
 obtain⟨xs2,w2,z2⟩:∃ xs:List (ty 24),Rep W (· < W.heap.size) qai v2 (.sl 24 xs)∧DSz ZInp d2 xs:=by
  obtain⟨fuel,hf⟩:=h2
  exact rep_in (c:=24) (by decide) Tryz.underlying33 (by kernel_rfl) (q7w Tryz.underlying43 (by kernel_rfl) rfl Tryz.underlying30 Tryz.underlying41 Tryz.underlying30 Tryz.underlying4 Tryz.underlying3 Tryz.underlying3 Tryz.underlying4 Tryz.underlying5 (by kernel_rfl) (by kernel_rfl) (by kernel_rfl) (by kernel_rfl) (by kernel_rfl) (by kernel_rfl) (by kernel_rfl) (by kernel_rfl)) (hval 2 33 v2 rfl rfl) hf
 clear hA0 hval0
 have hk0_0:kwf .i64 a0_0:=by simpa [Lit.wf,kwf] using w0_0
 have hk0_6:kwf .i64 a0_6:=by simpa [Lit.wf,kwf] using w0_6
 have hk0_7:kwf .i64 a0_7:=by simpa [Lit.wf,kwf] using w0_7
 have hk0_8:kwf .i64 a0_8:=by simpa [Lit.wf,kwf] using w0_8
 have hk0_9:kwf .i64 a0_9:=by simpa [Lit.wf,kwf] using w0_9
 have hk0_10:kwf .i64 a0_10:=by simpa [Lit.wf,kwf] using w0_10
 have hm2:∀ x∈xs2,InB x:=q7z hsz (j:=2) (t':=33) (by rw[Tryz.params7];rfl) rfl Tryz.underlying33 Tryz.underlying43 rfl Tryz.underlying30 Tryz.underlying30 (by decide +kernel) z2
 refine(qq6 q0W.out Tryz.call7 (w:=W) (vals:=#[.agg #[.int .i64 a0_0,c0_1,c0_2,c0_3,c0_4,c0_5,.int .i64 a0_6,.int .i64 a0_7,.int .i64 a0_8,.int .i64 a0_9,.int .i64 a0_10,c0_11],.agg #[c1_0],v2]) (args:=[.agg [.int .i64 a0_0,.sl 17 xs0_1,.sl 2 xs0_2,.sl 7 xs0_3,.sl 18 xs0_4,.sl 19 xs0_5,.int .i64 a0_6,.int .i64 a0_7,.int .i64 a0_8,.int .i64 a0_9,.int .i64 a0_10,.sl 10 xs0_11],.agg [.sl 0 xs1_0],.sl 24 xs2]) rfl (fun j v hj=>?_) (q5P (s:=⟨a0_0,xs0_1,xs0_2,xs0_3,xs0_4,xs0_5,a0_6,a0_7,a0_8,a0_9,a0_10,xs0_11⟩) (dsz_all (Q:=fun p:Phs=>0≤p.groupsf∧p.groupsf<4294967296) (fun _ _ h=>h) z0_4) hm2) (hK:=q3P hL)).mono fun e W' ⟨he,bel⟩=>?_
 ·
  rcases j with _|_|_|j
  ·
   simp at hj;subst hj;refine .agg rfl (fun j v h=>?_) (fun j v h=>?_)<;>rcases j with _|_|_|_|_|_|_|_|_|_|_|_|j<;>simp at h<;>subst h<;>first|rfl|exact .bool|exact .int (by assumption)|assumption
  ·
   simp at hj;subst hj;refine .agg rfl (fun j v h=>?_) (fun j v h=>?_)<;>rcases j with _|j<;>simp at h<;>subst h<;>first|rfl|exact .bool|exact .int (by assumption)|assumption
  ·
   simp at hj;subst hj;exact w2
  ·
   simp at hj
 subst he
 exact⟨_,rfl,_,_,_,[],_,[],hW',trodAll_mk1 (shut_bool Tryz.underlying4 _),(trodAll_cons_mk (Below.trod q5Q (by kernel_rfl) (of_decide_eq_true (by kernel_rfl)) k0 bel lt0) (trodAll_cons_mk (Below.trod q5Q (by kernel_rfl) (of_decide_eq_true (by kernel_rfl)) k1 bel lt1) (trodAll_cons_mk (Below.trod q5Q (by kernel_rfl) (of_decide_eq_true (by kernel_rfl)) k2 bel lt2) trodAll_mk0))),rfl,bel.frame _,fun h=>by cases h⟩
theorem qzG:Rows.TopUpSaid :=
 OpenClaim.holds_of_wide 7 Tryz.f7 rfl rfl rfl rfl rfl rfl rfl ⟨rfl,rfl,rfl,rfl,rfl⟩ rfl rfl rfl rfl rfl (by kernel_rfl) Tryz.func7 (by kernel_rfl)
  (of_decide_eq_true (by kernel_rfl)) (by unfold Func.isWrapper;first|(rw[if_pos (by decide +kernel)];kernel_rfl)|(rw[if_neg (by decide +kernel)];exact⟨rfl,rfl⟩))
  (fun os started H enc _=>qzF os started H enc)
theorem topUp_said:Rows.TopUpCardSaid :=
 Claim7.holds_tied_plain_at .later [] [.data,.data] true (true, "b3a3731fdcf22dd8478f5c004f5c36384d3de06c1975ca7a561c7ce5f086469e") false
  qzG (fun _ h=>by cases h) (by kernel_rfl) (fun _ h=>by cases h) topUp_row_tie rfl ⟨rfl,rfl⟩ (by kernel_rfl) rfl
  (fun f fn hf hfn=>by
   obtain rfl:f=7:=Option.some.inj ((show Tryz.prog.funcNamed "stopline/stoplinetop.TopUp" = some 7 by kernel_rfl).symm.trans hf) |>.symm
   obtain rfl:fn=Tryz.f7:=(Option.some.inj (Tryz.func7.symm.trans hfn)).symm
   exact⟨by kernel_rfl,fun j t ht=>by
    rw[Tryz.params7] at ht
    have hm:t∈[29,32,33]:=by simpa using Array.mem_of_getElem? ht
    have hall:([29,32,33].all fun u=>!Tryz.prog.wantsStandIn u)=true:=by kernel_rfl
    exact(show Tryz.prog.wantsStandIn t=false by simpa using List.all_eq_true.1 hall t hm)⟩)
  (by kernel_rfl)
#print axioms topUp_said
end Go.Proofs.YtcdppfnjidlknaaGreatDoor
