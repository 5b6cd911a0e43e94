/- Whatever the site, the device and the inputs, TopLost answers true and leaves its arguments as they were; this rests on the tables of math/bits being laid as the program lays them. -/
import Derived.Test.YtcdppfnjidlknaaGreatDoorXbg
import Derived.Test.YtcdppfnjidlknaaGreatDoorTie
import Derived.Test.YtcdppfnjidlknaaGreatDoorCards
import Derived.ProofKit
import Derived.LaidMore
import Derived.OpenShut
import Derived.Stop.Joined
import Derived.Lib.LaidTab
import Derived.SevenTiedAt
set_option linter.unusedVariables false
set_option linter.unusedSimpArgs false
namespace Go.Proofs.YtcdppfnjidlknaaGreatDoor
open Go Go.Eng Go.Proofs Go.Wp
theorem alive_ok:q33=some true:=by kernel_rfl
def InT (i:Inp):Prop:=(0≤i.eyesf∧i.eyesf<4294967296)∧i.bytesf.length≤140737488355328∧i.backf.length≤140737488355328
def bb (i:Inp):Int:=(i.bytesf.length:Int)+(i.backf.length:Int)
def FitOk (s:SiteT)(d:List UInt8)(l:List Inp):Prop:=SSm s∧d.length≤5000∧l.length≤200∧∀ i∈l,bb i≤20000
theorem fit_in {s:SiteT}{d:List UInt8}{l:List Inp}(h:FitOk s d l)(t:∀ i∈l,InT i):∀ i∈l,InOk i:=by
  intro i hi
  have h1:=h.2.2.2 i hi
  have h2:=t i hi
  unfold bb at h1
  exact⟨by omega,h2.1,by omega⟩
theorem qvI {α:Type}{n:Nat}{f:Nat→α}:((List.range n).map f).length=n:=by simp
theorem qvJ {α:Type}{n k:Nat}{f:Nat→α}{d:α}(h:k<n):((List.range n).map f).getD k d=f k:=by
  rw[qdt (by simpa using h)];simp
theorem mode_get {s:SiteT}{x:LocT}{l:List Inp}{k:Nat}(h:LOk s (XS s x l (k+1)))(hk:k<l.length):((((List.range l.length).map (MS s x l)).getD k (0:UInt8)).toNat:Int)=(XS s x l (k+1)).mode:=by
  rw[qvJ hk]
  have:=h.rung.1
  unfold MS
  rw[UInt8.toNat_ofNat'];omega
theorem qqr {s:SiteT}{x:LocT}{l:List Inp}{k:Nat}(hk:k<l.length):((List.range l.length).map (LS s x l)).getD k (dflt 6)=LS s x l k:=qvJ hk
theorem q7g {s:SiteT}:W (q0p s) (fun r=>r=false→SSm s):=by
 unfold q0p quJ
 refine W_if (fun c1=>?_) fun c1=>?_
 ·refine qaa ?_
  simp
 ·refine qaj (fun v=>∃ n3,v=((),((s,()),()),n3,())∧(0≤n3∧n3≤s.between.length)∧(Upto (fun z:List Int=>z.length≤40) s.between (dflt 7) n3)) (fun(_,((_,_),_),n3,_)=>(s.between.length-n3).toNat) ⟨_,rfl,by omega,Upto.zero⟩ (by simp only[NN];omega) ?_
  rintro r1 _ ⟨n3,rfl,hr1_0,hr1_1⟩ ihr1
  refine W_if (fun c2=>?_) fun c2=>?_
  ·refine W_ix (by omega) fun z9 hz9=>?_
   refine W_if (fun c3=>?_) fun c3=>?_
   ·refine qaa ?_
    simp
   ·refine qah (by omega) fun n10 hn10=>?_
    exact ihr1.use _ ⟨_,rfl,by omega,hr1_1.succ (by omega) hn10 (by rw[← hz9];omega)⟩ (by dsimp only;omega)
  ·refine qaj (fun v=>∃ n6,v=((),((s,()),()),n6,())∧(0≤n6∧n6≤s.plans.length)∧(Upto (fun p:Plan=>p.splits.length≤40) s.plans (dflt 10) n6)) (fun(_,((_,_),_),n6,_)=>(s.plans.length-n6).toNat) ⟨_,rfl,by omega,Upto.zero⟩ (by simp only[NN];omega) ?_
   rintro r4 _ ⟨n6,rfl,hr4_0,hr4_1⟩ ihr4
   refine W_if (fun c4=>?_) fun c4=>?_
   ·refine W_ix (by omega) fun x7 hx7=>?_
    refine W_if (fun c5=>?_) fun c5=>?_
    ·refine qaa ?_
     simp
    ·refine qah (by omega) fun n8 hn8=>?_
     exact ihr4.use _ ⟨_,rfl,by omega,hr4_1.succ (by omega) hn8 (by rw[← hx7];omega)⟩ (by dsimp only;omega)
   ·refine qaa ?_
    exact fun _=>⟨by omega,hr1_1.all (by omega),hr4_1.all (by omega)⟩
theorem q7h {l:List Inp}(p0:l.length≤200)(p1:∀ i∈l,InT i):W (q0q l) (fun r=>∀ i∈l,bb i≤r):=by
 unfold q0q quK
 refine qaj (fun v=>∃ n3 n4,v=((),(),l,n3,n4,())∧(0≤n4∧n4≤l.length)∧(0≤n3∧n3≤281474976710656*n4+200)∧(FA (fun k=>bb (l.getD k (dflt 24))≤n3) n4)) (fun(_,_,_,n3,n4,_)=>(l.length-n4).toNat) ⟨_,_,rfl,by omega,by omega,FA.zero⟩ (by simp only[NN];omega) ?_
 rintro r1 _ ⟨n3,n4,rfl,hr1_0,hr1_1,hr1_2⟩ ihr1
 refine W_if (fun c1=>?_) fun c1=>?_
 ·refine W_ix (by omega) fun x5 hx5=>?_
  have g5:=qao (d:=dflt 24) (n:=n4) p1 (by omega)
  rw[← hx5] at g5
  obtain⟨g5,g6,g7⟩:=g5
  refine W_ix (by omega) fun x6 hx6=>?_
  have e6:x6=x5:=by rw[hx6,hx5]
  subst e6
  refine W_wi (by omega) fun n7 hn7=>?_
  have e7:n7=bb x6:=by rw[hn7];rfl
  refine W_wi (by omega) fun n8 hn8=>?_
  refine qah (by omega) fun n9 hn9=>?_
  exact ihr1.use _ ⟨_,_,rfl,by omega,by omega,FA.succ (fun k h=>Int.le_trans (hr1_2 k h) (by omega)) (by omega) hn9 (by rw[← hx5];omega)⟩ (by dsimp only;omega)
 ·refine qaa ?_
  intro i hi
  obtain⟨k,hk,e⟩:=List.getElem_of_mem hi
  have:=hr1_2 k (by omega)
  dsimp only at this
  rw[qdt hk,e] at this;exact this
theorem q7i {s:SiteT}{d:List UInt8}{l:List Inp}(p0:∀ i∈l,InT i):W (q08 s d l) (fun r=>r=true→FitOk s d l):=by
 unfold q08 qva
 refine qab (q7g) ?_
 rintro b1 hb1
 refine W_if (fun c1=>?_) fun c1=>?_
 ·refine qab (q7h (by omega) p0) ?_
  rintro n2 hn2
  refine qaa ?_
  intro h;simp only[decide_eq_true_eq] at h
  exact⟨hb1 (by cases b1<;>simp_all),by omega,by omega,fun i hi=>Int.le_trans (hn2 i hi) h⟩
 ·refine qaa ?_
  simp
theorem qza {l:List UInt8}(p0:l.length≤1000):W (qbI l) (fun r=>(0≤r∧r≤l.length)∧(r=0↔NoF l)∧(r=l.length↔AllF l)):=by
 unfold qbI qhG
 refine qaj (fun v=>∃ n3 n4,v=((),(),l,n3,n4,())∧(0≤n4∧n4≤l.length)∧(0≤n3∧n3≤n4)∧(n3=0↔FA (fun i=>La l i≠4) n4)∧(n3=n4↔FA (fun i=>La l i=4) n4)) (fun(_,_,_,n3,n4,_)=>(l.length-n4).toNat) ⟨_,_,rfl,by omega,by omega,⟨fun _=>FA.zero,fun _=>rfl⟩,⟨fun _=>FA.zero,fun _=>rfl⟩⟩ (by simp only[NN];omega) ?_
 rintro r1 _ ⟨n3,n4,rfl,hr1_0,hr1_1,hr1_2,hr1_3⟩ ihr1
 refine W_if (fun c1=>?_) fun c1=>?_
 ·refine W_ix (by omega) fun x5 hx5=>?_
  have e5:(x5.toNat:Int)=La l n4.toNat:=by rw[hx5];rfl
  refine W_if (fun c2=>?_) fun c2=>?_
  ·refine qah (by omega) fun n7 hn7=>?_
   refine qah (by omega) fun n8 hn8=>?_
   exact ihr1.use _ ⟨_,_,rfl,by omega,by omega,⟨fun h=>by omega,fun h=>by have:=h n4.toNat (by omega);dsimp only at this;omega⟩,⟨fun h=>FA.succ (hr1_3.1 (by omega)) (by omega) (by omega) (by omega),fun h=>by have:=hr1_3.2 (fun k hk=>h k (by omega));omega⟩⟩ (by dsimp only;omega)
  ·refine qah (by omega) fun n6 hn6=>?_
   exact ihr1.use _ ⟨_,_,rfl,by omega,by omega,⟨fun h=>FA.succ (hr1_2.1 (by omega)) (by omega) (by omega) (by omega),fun h=>hr1_2.2 (fun k hk=>h k (by omega))⟩,⟨fun h=>by omega,fun h=>by have:=h n4.toNat (by omega);dsimp only at this;omega⟩⟩ (by dsimp only;omega)
 ·refine qaa ?_
  have e:n4=l.length:=by omega
  subst e;exact⟨by omega,hr1_2,hr1_3⟩
theorem q4H {s:SiteT}(p0:SOk s):W (qgk s) (fun r=>IsG s r):=by
 unfold qgk qoL
 obtain⟨⟨q1,q2,q3,q4,q5,q6,q7,q8⟩,q9⟩:=p0.shape
 refine qaj (fun v=>∃ n3 n4,v=((),((s,()),()),n3,n4,())∧(0≤n4∧n4≤s.between.length)∧(0≤n3∧n3≤1048576)∧(FA (fun a=>FA (fun b=>bt s a b≤n3) s.groups.length) n4)∧(n3=0∨∃ a b:Nat,a<s.groups.length∧b<s.groups.length∧bt s a b=n3)) (fun(_,((_,_),_),n3,n4,_)=>(s.between.length-n4).toNat) ⟨_,_,rfl,by omega,by omega,FA.zero,.inl rfl⟩ (by simp only[NN];omega) ?_
 rintro r1 _ ⟨n3,n4,rfl,hr1_0,hr1_1,hr1_2,hr1_3⟩ ihr1
 refine W_if (fun c1=>?_) fun c1=>?_
 ·refine qaj (fun v=>∃ n7 n9,v=((),((s,()),()),n7,n4,n9,())∧(0≤n9∧n9≤s.groups.length)∧(0≤n7∧n7≤1048576)∧(FA (fun a=>FA (fun b=>bt s a b≤n7) s.groups.length) n4)∧(n7=0∨∃ a b:Nat,a<s.groups.length∧b<s.groups.length∧bt s a b=n7)∧(FA (fun b=>bt s n4.toNat b≤n7) n9)) (fun(_,((_,_),_),n7,_,n9,_)=>((s.groups.length:Int)-n9).toNat) ⟨_,_,rfl,by omega,by omega,hr1_2,hr1_3,FA.zero⟩ (by simp only[NN];omega) ?_
  rintro r5 _ ⟨n7,n9,rfl,hr5_0,hr5_1,hr5_2,hr5_3,hr5_4⟩ ihr5
  refine W_ix (by omega) fun z10 hz10=>?_
  have g10:=qao (d:=dflt 7) (n:=n4) q9 (by omega)
  rw[← hz10] at g10
  refine W_if (fun c2=>?_) fun c2=>?_
  ·refine W_ix (by omega) fun z12 hz12=>?_
   have e12:z12=z10:=by rw[hz12,hz10]
   subst e12
   refine W_ix (by omega) fun n13 hn13=>?_
   have pk:=(p0.apart.2.all (k:=n4) (by omega)).all (k:=n9) (by omega)
   have e13:n13=bt s n4.toNat n9.toNat:=by rw[hn13,hz12];rfl
   have b13:0≤n13∧n13≤1048576:=by
    cases h:ap s n4.toNat n9.toNat
    · have:=pk.2.2 h;omega
    · have:=(pk.2.1 h).2;have:=p0.apart.1 _ (qci (d:=dflt 17) (n:=n4) (by omega));unfold Tk at this;omega
   refine qac fun n14 hn14=>?_
   refine qah (by omega) fun n15 hn15=>?_
   exact ihr5.use _ ⟨_,_,rfl,by omega,by omega,fun a h b hb=>Int.le_trans (hr5_2 a h b hb) (by omega),by rw[hn14];exact mx_ex hr5_3 (by omega) (by omega) e13,FA.succ (fun b h=>Int.le_trans (hr5_4 b h) (by omega)) (by omega) hn15 (by omega)⟩ (by dsimp only;omega)
  ·refine qah (by omega) fun n11 hn11=>?_
   exact ihr1.use _ ⟨_,_,rfl,by omega,by omega,FA.succ hr5_2 (by omega) hn11 (fun b h=>hr5_4 b (by omega)),hr5_3⟩ (by dsimp only;omega)
 ·refine qaa ?_
  exact⟨hr1_1,fun a h=>hr1_2 a (by omega),hr1_3⟩
theorem q7j {a:List (List UInt8)}{b:List (List UInt8)}{many:Int}(p0:a.length≤1000∧b.length≤1000)(p1:many≤a.length∧many≤b.length)(p2:∀ k:Nat,(k:Int)<many→a.getD k (dflt 6)=b.getD k (dflt 6)):W (q0r a b many) (fun r=>r=true):=by
 unfold q0r quL
 refine W_if (fun c1=>?_) fun c1=>?_
 ·exfalso;omega
 ·refine qaj (fun v=>∃ n5,v=((),(),a,b,many,n5,())∧(0≤n5∧(n5≤many∨n5=0))) (fun(_,_,_,_,_,n5,_)=>(many-n5).toNat) ⟨_,rfl,by omega⟩ (by simp only[NN];omega) ?_
  rintro r1 _ ⟨n5,rfl,hr1_0⟩ ihr1
  refine W_if (fun c2=>?_) fun c2=>?_
  ·refine W_ix (by omega) fun z6 hz6=>?_
   refine W_ix (by omega) fun z7 hz7=>?_
   refine W_if (fun c3=>?_) fun c3=>?_
   ·exact absurd (by rw[hz6,hz7,p2 n5.toNat (by omega)]) c3
   ·refine qah (by omega) fun n8 hn8=>?_
    exact ihr1.use _ ⟨_,rfl,by first|omega|(simp<;>omega)⟩ (by dsimp only;omega)
  ·refine qaa ?_
   rfl
end Go.Proofs.YtcdppfnjidlknaaGreatDoor
namespace Go.Proofs.YtcdppfnjidlknaaGreatDoor
open Go Go.Eng Go.Proofs Go.Wp
theorem Ran.len {s:SiteT}{x y:LocT}{i:Inp}{l:List UInt8}(r:Ran s x i y l):l.length=s.groups.length∧(AllF l∨NoF l):=by
 by_cases c:i.lostf=true
 ·
  have:=(r.lost c).all
  subst this
  exact⟨by simp,.inl fun k hk=>rep4 (by simpa using hk)⟩
 ·
  obtain⟨h,g⟩:=(r.went (by simpa using c)).nf
  exact⟨h,g.imp id fun g=>g.1⟩
theorem Ran.now {s:SiteT}{x y:LocT}{i:Inp}{l:List UInt8}(r:Ran s x i y l):qqt s x.seen x.start x.flashed l y.seen y.start y.flashed:=by
 by_cases c:i.lostf=true
 ·
  exact(r.lost c).now
 ·
  exact(r.went (by simpa using c)).now
theorem Ran.nf {s:SiteT}{x y:LocT}{i:Inp}{l:List UInt8}(r:Ran s x i y l):qcL s x.seen x.start x.flashed l:=by
 by_cases c:i.lostf=true
 ·
  have:=(r.lost c).all
  subst this
  exact⟨by simp,.inl fun k hk=>rep4 (by simpa using hk)⟩
 ·
  exact(r.went (by simpa using c)).nf
theorem Ran.lit {s:SiteT}{x y:LocT}{i:Inp}{l:List UInt8}(r:Ran s x i y l):FA (fun k=>La l k=As y.seen k) s.groups.length:=by
 intro k hk
 have:=r.now.1.2 k hk
 dsimp only at this ⊢
 unfold As
 rw[this];rfl
theorem q7k {s:SiteT}{l:List UInt8}{r:Int}(ok:SOk s)(h:l.length=s.groups.length∧(AllF l∨NoF l))(g:(0≤r∧r≤l.length)∧(r=0↔NoF l)∧(r=l.length↔AllF l)):(r > 0↔AllF l)∧(r=s.groups.length↔AllF l):=by
 have q:=ok.shape.1
 obtain⟨h1,h2⟩:=h
 obtain⟨g1,g2,g3⟩:=g
 refine⟨⟨fun c=>?_,fun c=>?_⟩,by rw[← h1];exact g3⟩
 ·
  rcases h2 with h|h
  ·
   exact h
  ·
   have:=g2.2 h;omega
 ·
  have:=g3.2 c;omega
end Go.Proofs.YtcdppfnjidlknaaGreatDoor
namespace Go.Proofs.YtcdppfnjidlknaaGreatDoor
open Go Go.Eng Go.Proofs Go.Wp
theorem IsG.uniq {s:SiteT}{a b:Int}(h:IsG s a)(g:IsG s b):a=b:=by
  obtain⟨h1,h2,h3⟩:=h
  obtain⟨g1,g2,g3⟩:=g
  have p:a≤b:=by
    rcases h3 with h|⟨i,j,hi,hj,e⟩
    · omega
    · have:=g2 i (by omega) j (by omega);dsimp only at this;omega
  have q:b≤a:=by
    rcases g3 with h|⟨i,j,hi,hj,e⟩
    · omega
    · have:=h2 i (by omega) j (by omega);dsimp only at this;omega
  omega
theorem ls_congr {s:SiteT}{x:LocT}{l m:List Inp}{k:Nat}(h:∀ j:Nat,j≤k→l.getD j (dflt 24)=m.getD j (dflt 24)):LS s x l k=LS s x m k:=by
  unfold LS
  rw[qvH fun j hj=>h j (by omega),h k (Nat.le_refl _)]
theorem ms_congr {s:SiteT}{x:LocT}{l m:List Inp}{k:Nat}(h:∀ j:Nat,j≤k→l.getD j (dflt 24)=m.getD j (dflt 24)):MS s x l k=MS s x m k:=by
  unfold MS
  rw[qvH fun j hj=>h j (by omega)]
theorem take_eq {α:Type}{f g:Nat→α}{n a:Nat}(h:∀ k:Nat,k<a→f k=g k):List.take a ((List.range n).map f)=List.take a ((List.range n).map g):=by
  rw[← List.map_take,← List.map_take]
  refine List.map_congr_left fun k hk=>h k ?_
  rw[List.take_range] at hk
  have:=List.mem_range.1 hk
  omega
def Low (s:SiteT)(x:LocT)(n:Int):Prop:=∀ G,IsG s G→x.flashed=true∨G-n≤x.start
theorem low_next {s:SiteT}{x y:LocT}{i:Inp}{l:List UInt8}{n:Int}(r:Ran s x i y l)(h:Low s x n)(hn:0≤n):Low s y (n+1):=by
  intro G hG
  obtain⟨-,b2,G',g1,g2⟩:=r.now
  obtain rfl:=hG.uniq g1
  by_cases c:y.flashed=true
  · exact .inl c
  · right
    rw[g2,if_neg c]
    split
    · omega
    · have:=(h G hG).resolve_left (by assumption)
      omega
theorem low_red {s:SiteT}{x y:LocT}{i:Inp}{l:List UInt8}{n G:Int}(r:Ran s x i y l)(h:Low s x n)(hG:IsG s G)(hn:n<G){k:Int}(hk:0≤k∧k<l.length):La l k.toNat=1∨La l k.toNat=4:=by
  obtain⟨h1,h2⟩:=r.nf
  rcases h2 with h2|⟨-,h2,-⟩
  · exact .inr (h2 k.toNat (by omega))
  · exact .inl (h2 ((h G hG).imp id fun h=>by omega) k.toNat (by omega))
theorem ex_lost {l:List Inp} {n:Int} {z:List Inp} (hn:0≤n∧n<l.length) (e:z=l.set (0+n.toNat) {(l.getD (0+n.toNat) (dflt 24)) with lostf:=true}):z.length=l.length∧(∀ j:Nat,j<n.toNat→l.getD j (dflt 24)=z.getD j (dflt 24))∧(z.getD n.toNat (dflt 24)).lostf=true∧∀ (P:Inp→Prop),(∀ i∈l,P i)→(∀ i,P i→P {i with lostf:=true})→∀ i∈z,P i:=by
  subst e
  have e0:0+n.toNat=n.toNat:=by omega
  rw[e0]
  refine⟨by rw[List.length_set],fun j hj=>?_,?_,fun P h g i hi=>?_⟩
  · rw[List.getD_eq_getElem?_getD,List.getD_eq_getElem?_getD,List.getElem?_set_ne (by omega)]
  · rw[List.getD_eq_getElem?_getD,List.getElem?_set_self (by omega)];rfl
  · rcases List.mem_or_eq_of_mem_set hi with g'|g'
    · exact h i g'
    · subst g';exact g _ (h _ (qci (n:=n) (by omega)))
theorem qzb {s:SiteT}{d:List UInt8}{l:List Inp}{at0:Int}(p0:SWf s)(p1:∀ i∈l,InT i):W (qlv s d l at0) (fun r=>r=true):=by
 unfold qlv qid
 refine qbv (alive_ok) ?_
 refine W_if (fun c1=>?_) fun c1=>?_
 ·exact absurd rfl c1
 ·refine qab (q7i p1) ?_
  rintro b2 hb2
  refine W_if (fun c2=>?_) fun c2=>?_
  ·refine qaa ?_
   rfl
  ·have ft:=hb2 (Classical.not_not.1 fun h=>c2 (.inl (.inl h)))
   have l200:=ft.2.2.1
   have fin:=fit_in ft p1
   refine qaf (by first|omega|(rw[List.length_drop];omega)|(simp<;>omega)) ?_
   refine qac fun z3 hz3=>?_
   have lz3:=congrArg List.length hz3;try simp at lz3
   refine W_rb (by first|omega|(rw[List.length_drop];omega)|(simp<;>omega)) ?_
   refine qaf (by first|omega|(rw[List.length_drop];omega)|(simp<;>omega)) ?_
   refine qac fun z4 hz4=>?_
   have lz4:=congrArg List.length hz4;try simp at lz4
   rw[hz3] at hz4
   have xs:=ex_lost (by omega) hz4
   obtain⟨xl,xj,xt,xp⟩:=xs
   rw[← xl,List.take_length]
   have fin2:=xp _ fin (fun i h=>h)
   refine qab (qtv ft.1 p0 (by have:=ft.2.1;omega) (by have:=ft.2.2.1;omega) fin) ?_
   rintro⟨z5,z6,n7⟩ hz5
   try dsimp only at hz5
   refine qab (qtv ft.1 p0 (by have:=ft.2.1;omega) (by have:=ft.2.2.1;omega) fin2) ?_
   rintro⟨z8,z9,n10⟩ hz8
   try dsimp only at hz8
   refine W_if (fun c6=>?_) fun c6=>?_
   ·rcases hz5 with ⟨n,y0,h1,h2,h3⟩|rn
    · simp only[Prod.mk.injEq] at h3
      refine qaa ?_
      rcases hz8 with ⟨n',y1,h1',h2',h3'⟩|rn'
      · simp only[Prod.mk.injEq] at h3'
        rw[h2] at h2'
        simp only[Option.some.injEq,Prod.mk.injEq] at h2'
        simp[h3.2.2,h3'.2.2,h2'.1]
      · obtain⟨x0,e0,-⟩:=rn'.new
        rw[h2] at e0
        simp only[Option.some.injEq,Prod.mk.injEq] at e0
        exact absurd e0.1 h1
    exfalso
    obtain⟨x0,e0,-,e1⟩:=rn.new
    simp only[Prod.mk.injEq] at e1
    rcases hz8 with ⟨n',y1,h1',h2',h3'⟩|rn'
    · rw[e0] at h2'
      simp only[Option.some.injEq,Prod.mk.injEq] at h2'
      exact h1' h2'.1.symm
    · obtain⟨x1,-,-,e2⟩:=rn'.new
      simp only[Prod.mk.injEq] at e2
      omega
   ·rcases hz5 with ⟨n,y0,h1,h2,h3⟩|rn
    · simp only[Prod.mk.injEq] at h3;exact absurd (.inl (by rw[h3.2.2];exact h1)) c6
    rcases hz8 with ⟨n,y0,h1,h2,h3⟩|rn'
    · simp only[Prod.mk.injEq] at h3;exact absurd (.inr (by rw[h3.2.2];exact h1)) c6
    have sg:=rn.sg
    obtain⟨x0,e0,nw,e1⟩:=rn.new
    obtain⟨x1,e0',nw',e1'⟩:=rn'.new
    rw[e0] at e0'
    simp only[Option.some.injEq,Prod.mk.injEq,true_and] at e0'
    subst e0'
    simp only[Prod.mk.injEq] at e1 e1'
    obtain⟨ez5,ez6,en7⟩:=e1
    obtain⟨ez8,ez9,en10⟩:=e1'
    obtain⟨⟨q1,q2,q3,q4,q5,q6,q7,q8⟩,q9⟩:=sg.ok.shape
    have l5:z5.length=l.length:=by rw[ez5];exact qvI
    have l6:z6.length=l.length:=by rw[ez6];exact qvI
    have l8:z8.length=l.length:=by rw[ez8,qvI,xl]
    have l9:z9.length=l.length:=by rw[ez9,qvI,xl]
    have okX:=xs_ok sg nw.ok fin2
    have ranX:=fun(k:Nat) (h:k<z4.length)=>xs_ran sg nw.ok fin2 h
    have ra:=ranX at0.toNat (by omega)
    have md:=mode_get (s:=s) (x:=x0) (l:=z4) (k:=at0.toNat) ra.ok (by omega)
    rw[← ez9] at md
    refine qab (q7j (by omega) (by omega) (fun k hk=>by rw[ez5,ez8,xl,qvJ (by omega),qvJ (by omega)];exact ls_congr fun j hj=>xj j (by omega))) ?_
    rintro b11 hb11
    refine qaf (by first|omega|(rw[List.length_drop];omega)|(simp<;>omega)) ?_
    refine qaf (by first|omega|(rw[List.length_drop];omega)|(simp<;>omega)) ?_
    refine qaf (by first|omega|(rw[List.length_drop];omega)|(simp<;>omega)) ?_
    refine qac fun z12 hz12=>?_
    have lz12:=congrArg List.length hz12;try simp at lz12
    refine W_if (fun c10=>?_) fun c10=>?_
    ·exfalso
     rcases c10 with (h|h)|h
     · exact h hb11
     · refine h ?_
       rw[List.toList_toArray,List.toList_toArray,ez6,ez9,xl]
       exact take_eq fun k hk=>ms_congr fun j hj=>xj j (by omega)
     · omega
    ·refine qab (qza (by rw[hz12,ez8,qqr (by omega),ra.len.1];omega)) ?_
     rintro n13 hn13
     refine qaf (by first|omega|(rw[List.length_drop];omega)|(simp<;>omega)) ?_
     refine qac fun x14 hx14=>?_
     refine qaf (by first|omega|(rw[List.length_drop];omega)|(simp<;>omega)) ?_
     refine qac fun x15 hx15=>?_
     refine W_if (fun c13=>?_) fun c13=>?_
     ·exfalso
      have fp:=q7k sg.ok ra.len (by rw[hz12,ez8,qqr (by omega)] at hn13;exact hn13)
      have fa:AllF (LS s x0 z4 at0.toNat):=by
       rw[(ra.lost xt).all];exact fun k hk=>rep4 (by simpa using hk)
      have:=fp.2.2 fa
      have mo:=(ra.lost xt).mode
      rcases c13 with h|⟨h,g⟩
      · omega
      · rw[hx14,md] at h;rw[hx15,md] at g;omega
     ·refine qah (by omega) fun n16 hn16=>?_
      refine qaj (fun v=>∃ n22,v=((),((s,()),()),at0,true,z8,n22,())∧(0≤n22∧n22≤z8.length)∧(at0<n22)∧(Low s (XS s x0 z4 n22.toNat) (n22-at0-1))) (fun(_,((_,_),_),_,_,_,n22,_)=>(z8.length-n22).toNat) ⟨_,rfl,by omega,by omega,fun G hG=>.inl (by rw[hn16,show (at0+1).toNat=at0.toNat+1 by omega];exact ra.now.2.1.2 (by rw[(ra.lost xt).all];exact fun k hk=>rep4 (by simpa using hk)))⟩ (by simp only[NN];omega) ?_
      rintro r17 _ ⟨n22,rfl,hr17_0,hr17_1,hr17_2⟩ ihr17
      have okY:=okX n22.toNat (by omega)
      refine W_if (fun c14=>?_) fun c14=>?_
      ·refine qab (q4H sg.ok) ?_
       rintro n23 hn23
       have ri:=ranX n22.toNat (by omega)
       have en:(n22+1).toNat=n22.toNat+1:=by omega
       have lg:=qqr (s:=s) (x:=x0) (l:=z4) (k:=n22.toNat) (by omega)
       rw[← ez8] at lg
       have ln:=ri.len.1
       have wg:=hn23.1
       refine W_wi (by omega) fun n24 hn24=>?_
       refine W_if (fun c15=>?_) fun c15=>?_
       ·refine qaj (fun v=>∃ n31,v=((),((s,()),()),at0,true,z8,n22,n31,())∧(0≤n31∧n31≤s.groups.length)) (fun(_,((_,_),_),_,_,_,_,n31,_)=>(s.groups.length-n31).toNat) ⟨_,rfl,by omega⟩ (by simp only[NN];omega) ?_
        rintro r25 _ ⟨n31,rfl,hr25_0⟩ ihr25
        refine W_ix (by omega) fun z32 hz32=>?_
        have e32:z32=LS s x0 z4 n22.toNat:=by rw[hz32];exact lg
        have m32:z32.length=s.groups.length:=by rw[e32,ln]
        refine W_if (fun c16=>?_) fun c16=>?_
        ·refine W_ix (by omega) fun z34 hz34=>?_
         have m34:z34.length=s.groups.length:=by rw[hz34,lg,ln]
         refine W_ix (by omega) fun x35 hx35=>?_
         rw[hz34,lg] at hx35
         have e35:(x35.toNat:Int)=La (LS s x0 z4 n22.toNat) n31.toNat:=by rw[hx35];rfl
         refine qaf (by first|omega|(rw[List.length_drop];omega)|(simp<;>omega)) ?_
         refine qac fun z36 hz36=>?_
         have lz36:=congrArg List.length hz36;try simp at lz36
         have m36:z36.length=s.groups.length:=by rw[hz36,lg,ln]
         refine qaf (by first|omega|(rw[List.length_drop];omega)|(simp<;>omega)) ?_
         refine qac fun x37 hx37=>?_
         rw[hz36,lg] at hx37
         have e37:(x37.toNat:Int)=La (LS s x0 z4 n22.toNat) n31.toNat:=by rw[hx37];rfl
         refine W_if (fun c19=>?_) fun c19=>?_
         ·exfalso
          have:=low_red (k:=n31) ri hr17_2 hn23 (by omega) (by omega)
          omega
         ·refine qah (by omega) fun n38 hn38=>?_
          exact ihr25.use _ ⟨_,rfl,by omega⟩ (by dsimp only;omega)
        ·refine qah (by omega) fun n33 hn33=>?_
         exact ihr17.use _ ⟨_,rfl,by omega,by omega,by rw[hn33,en,show n22+1-at0-1=n22-at0-1+1 by omega];exact low_next ri hr17_2 (by omega)⟩ (by dsimp only;omega)
       ·refine qaa ?_
        rfl
      ·refine qaa ?_
       rfl
end Go.Proofs.YtcdppfnjidlknaaGreatDoor
namespace Go.Eng
open Go Go.ChangeShapes
section
variable {H : Type} {enc' : TypeId × Value → H} {P : Program} {w : World} {base : Nat} {held : Bool}
theorem qjU {t:TypeId} {fs:Array Field} (ht:P.underlying t=some (.struct fs)) (ts:List TypeId) (hfs:(fs.toList.map fun f=>(f.offset,f.type))=(List.range ts.length).zip ts) (hone:∀ u∈ts,P.cellsOf u=1) (hsz:P.cellsOf t=ts.length)
  {n:Nat} {cs:List Value} {y:DataW H×List MemPlace} (h:DataW.trod enc' P w base (fun _=>true) held n t cs=some y) :
  ∃ (xs:List (DataW H×List MemPlace)) (m:Nat),y.1=.agg (xs.map (·.1))∧xs.length=ts.length∧cs.length=ts.length∧∀ (i:Nat) (u:TypeId),ts[i]? = some u→∃ c yi,cs[i]? = some c∧xs[i]? = some yi∧DataW.trod enc' P w base (fun _=>true) held m u [c]=some yi:=by
 obtain⟨xs,m,-,rfl,hl,hlen,hf⟩:=DataW.trod_struct ht h
 have fsz:fs.size=ts.length:=by have:=congrArg List.length hfs;simpa using this
 refine⟨xs,m,rfl,by omega,by omega,fun i u hu=>?_⟩
 have hi:i<ts.length:=(List.getElem?_eq_some_iff.1 hu).1
 have hz:((List.range ts.length).zip ts)[i]? = some (i,u):=by
  rw[List.getElem?_zip_eq_some]
  exact⟨by rw[List.getElem?_range hi],hu⟩
 rw[← hfs,List.getElem?_map] at hz
 obtain⟨f,hf1,hf2⟩:=Option.map_eq_some_iff.1 hz
 simp only[Prod.mk.injEq] at hf2
 have hf1':fs[i]? = some f:=by simpa using hf1
 have hfi:=hf i f hf1'
 rw[hf2.1,hf2.2,hone u (List.mem_of_getElem? hu)] at hfi
 have hc:i<cs.length:=by omega
 have hx:i<xs.length:=by omega
 have e:(cs.drop i).take 1=[cs[i]]:=by rw[List.drop_eq_getElem_cons hc];rfl
 rw[e] at hfi
 exact⟨cs[i],xs[i],List.getElem?_eq_getElem hc,List.getElem?_eq_getElem hx,by rw[hfi,List.getElem?_eq_getElem hx]⟩
theorem qdq {m:Nat}{u:TypeId} {κ:IntKind}{c:Value}{y:DataW H×List MemPlace}(hu:P.underlying u=some (.int κ))(h:DataW.trod enc' P w base (fun _=>true) held m u [c]=some y):∃ a,c=.int κ a∧kwf κ a:=by
 obtain⟨a,e,-,w0⟩:=DataW.trod_int hu h
 simp at e
 exact⟨a,e,by simpa [Lit.wf,kwf] using w0⟩
theorem q1L {m:Nat}{u:TypeId}{c:Value}{y:DataW H×List MemPlace}(hu:P.underlying u=some .bool)(h:DataW.trod enc' P w base (fun _=>true) held m u [c]=some y):∃ a,c=.bool a:=by
 obtain⟨a,e,-⟩:=DataW.trod_bool hu h
 simp at e
 exact⟨a,e⟩
def ZT {α:Type}(d:DataW H)(x:α):Prop:=True
theorem q70 {t t1 t2 t3:TypeId} {fs:Array Field} (ht:P.underlying t=some (.struct fs)) (hsz:P.cellsOf t=3) (hfs:(fs.toList.map fun f=>(f.offset,f.type))=[(0,t1),(1,t2),(2,t3)]) (h1:P.underlying t1=some (.int .u8)) (h2:P.underlying t2=some (.int .i64)) (h3:P.underlying t3=some (.int .i64))
  (z1:P.cellsOf t1=1) (z2:P.cellsOf t2=1) (z3:P.cellsOf t3=1):qbE enc' P w base held 17 (ZT (α:=Grp)) t:=fun n cs y h=>by
 obtain⟨xs,m,-,-,hl,hf⟩:=qjU ht [t1,t2,t3] hfs (by intro u hu;simp at hu;rcases hu with rfl|rfl|rfl<;>assumption) hsz h
 match cs,hl with
 | [c0,c1,c2],_ =>
  obtain⟨a,y0,e0,-,g0⟩:=hf 0 _ rfl
  obtain⟨b,y1,e1,-,g1⟩:=hf 1 _ rfl
  obtain⟨c,y2,e2,-,g2⟩:=hf 2 _ rfl
  cases e0;cases e1;cases e2
  obtain⟨a0,rfl,k0⟩:=qdq h1 g0
  obtain⟨a1,rfl,k1⟩:=qdq h2 g1
  obtain⟨a2,rfl,k2⟩:=qdq h3 g2
  refine⟨⟨a0,a1,a2⟩,trivial,rfl,fun j u hv=>?_⟩
  match j,hv with
  |0,hv=>cases hv;exact⟨rfl,.int k0⟩
  |1,hv=>cases hv;exact⟨rfl,.int k1⟩
  |2,hv=>cases hv;exact⟨rfl,.int k2⟩
  |j+3,hv=>simp at hv
def ZPhs (d:DataW H)(x:Phs):Prop:=0≤x.groupsf∧x.groupsf<4294967296
theorem q71 {t t1 t2 t3 t4 t5:TypeId} {fs:Array Field} (ht:P.underlying t=some (.struct fs)) (hsz:P.cellsOf t=5) (hfs:(fs.toList.map fun f=>(f.offset,f.type))=[(0,t1),(1,t2),(2,t3),(3,t4),(4,t5)]) (h1:P.underlying t1=some (.int .u32)) (h2:P.underlying t2=some (.int .i64)) (h3:P.underlying t3=some (.int .i64)) (h4:P.underlying t4=some (.int .i64)) (h5:P.underlying t5=some .bool)
  (z1:P.cellsOf t1=1) (z2:P.cellsOf t2=1) (z3:P.cellsOf t3=1) (z4:P.cellsOf t4=1) (z5:P.cellsOf t5=1):qbE enc' P w base held 18 ZPhs t:=fun n cs y h=>by
 obtain⟨xs,m,-,-,hl,hf⟩:=qjU ht [t1,t2,t3,t4,t5] hfs (by intro u hu;simp at hu;rcases hu with rfl|rfl|rfl|rfl|rfl<;>assumption) hsz h
 match cs,hl with
 | [c0,c1,c2,c3,c4],_ =>
  obtain⟨a,y0,e0,-,g0⟩:=hf 0 _ rfl
  obtain⟨b,y1,e1,-,g1⟩:=hf 1 _ rfl
  obtain⟨c,y2,e2,-,g2⟩:=hf 2 _ rfl
  obtain⟨d,y3,e3,-,g3⟩:=hf 3 _ rfl
  obtain⟨e,y4,e4,-,g4⟩:=hf 4 _ rfl
  cases e0;cases e1;cases e2;cases e3;cases e4
  obtain⟨a0,rfl,k0⟩:=qdq h1 g0
  obtain⟨a1,rfl,k1⟩:=qdq h2 g1
  obtain⟨a2,rfl,k2⟩:=qdq h3 g2
  obtain⟨a3,rfl,k3⟩:=qdq h4 g3
  obtain⟨a4,rfl⟩:=q1L h5 g4
  refine⟨⟨a0,a1,a2,a3,a4⟩,(show 0≤a0∧a0<4294967296 from by have:0≤a0∧a0≤4294967295:=k0;omega),rfl,fun j u hv=>?_⟩
  match j,hv with
  |0,hv=>cases hv;exact⟨rfl,.int k0⟩
  |1,hv=>cases hv;exact⟨rfl,.int k1⟩
  |2,hv=>cases hv;exact⟨rfl,.int k2⟩
  |3,hv=>cases hv;exact⟨rfl,.int k3⟩
  |4,hv=>cases hv;exact⟨rfl,.bool⟩
  |j+5,hv=>simp at hv
theorem q72 {t t1 t2 t3 t4:TypeId} {fs:Array Field} (ht:P.underlying t=some (.struct fs)) (hsz:P.cellsOf t=4) (hfs:(fs.toList.map fun f=>(f.offset,f.type))=[(0,t1),(1,t2),(2,t3),(3,t4)]) (h1:P.underlying t1=some (.int .i64)) (h2:P.underlying t2=some (.int .i64)) (h3:P.underlying t3=some (.int .i64)) (h4:P.underlying t4=some (.int .i64))
  (z1:P.cellsOf t1=1) (z2:P.cellsOf t2=1) (z3:P.cellsOf t3=1) (z4:P.cellsOf t4=1):qbE enc' P w base held 19 (ZT (α:=EyeT)) t:=fun n cs y h=>by
 obtain⟨xs,m,-,-,hl,hf⟩:=qjU ht [t1,t2,t3,t4] hfs (by intro u hu;simp at hu;rcases hu with rfl|rfl|rfl|rfl<;>assumption) hsz h
 match cs,hl with
 | [c0,c1,c2,c3],_ =>
  obtain⟨a,y0,e0,-,g0⟩:=hf 0 _ rfl
  obtain⟨b,y1,e1,-,g1⟩:=hf 1 _ rfl
  obtain⟨c,y2,e2,-,g2⟩:=hf 2 _ rfl
  obtain⟨d,y3,e3,-,g3⟩:=hf 3 _ rfl
  cases e0;cases e1;cases e2;cases e3
  obtain⟨a0,rfl,k0⟩:=qdq h1 g0
  obtain⟨a1,rfl,k1⟩:=qdq h2 g1
  obtain⟨a2,rfl,k2⟩:=qdq h3 g2
  obtain⟨a3,rfl,k3⟩:=qdq h4 g3
  refine⟨⟨a0,a1,a2,a3⟩,trivial,rfl,fun j u hv=>?_⟩
  match j,hv with
  |0,hv=>cases hv;exact⟨rfl,.int k0⟩
  |1,hv=>cases hv;exact⟨rfl,.int k1⟩
  |2,hv=>cases hv;exact⟨rfl,.int k2⟩
  |3,hv=>cases hv;exact⟨rfl,.int k3⟩
  |j+4,hv=>simp at hv
def ZInp (d:DataW H)(x:Inp):Prop:=(0≤x.eyesf∧x.eyesf<4294967296)∧∃ d0 d1 d2 r,d=.agg (d0::d1::d2::r)∧DSz Z0 d0 x.bytesf∧DSz Z0 d2 x.backf
theorem q73 {t t1 t2 t3 t4 t5 t6 t7 e:TypeId} {fs:Array Field} (ht:P.underlying t=some (.struct fs)) (hsz:P.cellsOf t=7) (hfs:(fs.toList.map fun f=>(f.offset,f.type))=[(0,t1),(1,t2),(2,t3),(3,t4),(4,t5),(5,t6),(6,t7)]) (h1:P.underlying t1=some (.slice e)) (h2:P.underlying t2=some (.int .u32)) (h3:P.underlying t3=some (.slice e)) (h4:P.underlying t4=some .bool) (h5:P.underlying t5=some (.int .i64)) (h6:P.underlying t6=some (.int .i64)) (h7:P.underlying t7=some .bool) (he:P.underlying e=some (.int .u8))
  (z1:P.cellsOf t1=1) (z2:P.cellsOf t2=1) (z3:P.cellsOf t3=1) (z4:P.cellsOf t4=1) (z5:P.cellsOf t5=1) (z6:P.cellsOf t6=1) (z7:P.cellsOf t7=1) (ze:P.cellsOf e=1):qbE enc' P w base held 24 ZInp t:=fun n cs y h=>by
 obtain⟨xs,m,ey,hxl,hl,hf⟩:=qjU ht [t1,t2,t3,t4,t5,t6,t7] hfs (by intro u hu;simp at hu;rcases hu with rfl|rfl|rfl|rfl|rfl|rfl|rfl<;>assumption) hsz h
 match cs,hl with
 | [c0,c1,c2,c3,c4,c5,c6],_ =>
  obtain⟨a,y0,e0,x0,g0⟩:=hf 0 _ rfl
  obtain⟨b,y1,e1,x1,g1⟩:=hf 1 _ rfl
  obtain⟨c,y2,e2,x2,g2⟩:=hf 2 _ rfl
  obtain⟨d,y3,e3,x3,g3⟩:=hf 3 _ rfl
  obtain⟨e',y4,e4,x4,g4⟩:=hf 4 _ rfl
  obtain⟨f',y5,e5,x5,g5⟩:=hf 5 _ rfl
  obtain⟨g',y6,e6,x6,g6⟩:=hf 6 _ rfl
  cases e0;cases e1;cases e2;cases e3;cases e4;cases e5;cases e6
  obtain⟨v0,b0,q0,o0,r0,s0⟩:=qa5 (c:=0) (by decide) h1 ze (qiA he) g0
  obtain⟨a1,rfl,k1⟩:=qdq h2 g1
  obtain⟨v2,b2,q2,o2,r2,s2⟩:=qa5 (c:=0) (by decide) h3 ze (qiA he) g2
  obtain⟨a3,rfl⟩:=q1L h4 g3
  obtain⟨a4,rfl,k4⟩:=qdq h5 g4
  obtain⟨a5,rfl,k5⟩:=qdq h6 g5
  obtain⟨a6,rfl⟩:=q1L h7 g6
  simp at q0 q2
  subst q0;subst q2
  match xs,hxl with
  | [p0,p1,p2,p3,p4,p5,p6],_ =>
   cases x0;cases x2
   refine⟨⟨b0,a1,b2,a3,a4,a5,a6⟩,⟨(show 0≤a1∧a1<4294967296 from by have:0≤a1∧a1≤4294967295:=k1;omega),_,_,_,_,ey,s0,s2⟩,rfl,fun j u hv=>?_⟩
   match j,hv with
   |0,hv=>cases hv;exact⟨o0,r0⟩
   |1,hv=>cases hv;exact⟨rfl,.int k1⟩
   |2,hv=>cases hv;exact⟨o2,r2⟩
   |3,hv=>cases hv;exact⟨rfl,.bool⟩
   |4,hv=>cases hv;exact⟨rfl,.int k4⟩
   |5,hv=>cases hv;exact⟨rfl,.int k5⟩
   |6,hv=>cases hv;exact⟨rfl,.bool⟩
   |j+7,hv=>simp at hv
theorem q3B {α:Type}{Z:DataW H→α→Prop}{Q:α→Prop}(hq:∀ d x,Z d x→Q x):∀ (el:List (DataW H)) (xs:List α),ZAll Z el xs→∀ x∈xs,Q x
 | [],[],_,x,hx=>by simp at hx
 |d::el,y::xs,h,x,hx=>by
  rcases List.mem_cons.1 hx with rfl|hx
  ·
   exact hq _ _ h.1
  ·
   exact q3B hq el xs h.2 x hx
theorem dsz_all {α:Type}{Z:DataW H→α→Prop}{Q:α→Prop}(hq:∀ d x,Z d x→Q x){d:DataW H}{xs:List α}(h:DSz Z d xs):∀ x∈xs,Q x:=by
 rcases h with rfl|⟨el,sp,-,h⟩
 ·
  intro x hx;simp at hx
 ·
  exact q3B hq el xs h
theorem q74 {α:Type}{Z:DataW H→α→Prop}{P:Program}{t e:TypeId}{d:DataW H}{xs:List α}(h:DSz Z d xs)(ht:P.underlying t=some (.slice e))(hb:0<P.bytesOf e)(hn:∀ n,n∈DataW.weights P t d→n≤reachBytes):xs.length≤140737488355328:=by
 rcases h with rfl|⟨el,sp,rfl,hz⟩
 ·
  simp
 ·
  have l:=q2o el xs hz
  have:=hn ((el.length+sp.length)*P.bytesOf e) (by simp[DataW.weights,ht])
  have r:reachBytes≤140737488355328:=by decide
  have:el.length+sp.length≤(el.length+sp.length)*P.bytesOf e:=Nat.le_mul_of_pos_right _ hb
  omega
def InB (x:Inp):Prop:=(0≤x.eyesf∧x.eyesf<4294967296)∧x.bytesf.length≤140737488355328∧x.backf.length≤140737488355328
theorem q75 {P:Program}{t t1 t2 t3 e:TypeId}{fs:Array Field}{r:List TypeId}(ht:P.underlying t=some (.struct fs))(hf:fs.toList.map (·.type)=t1::t2::t3::r)(h1:P.underlying t1=some (.slice e))(h3:P.underlying t3=some (.slice e))(hb:0<P.bytesOf e):∀ (el:List (DataW H)) (xs:List Inp),ZAll ZInp el xs→(∀ n,n∈DataW.weightsAll P t el→n≤reachBytes)→∀ x∈xs,InB x
 | [],[],_,_,x,hx=>by simp at hx
 | [],_::_,h,_,_,_=>h.elim
 |_::_,[],h,_,_,_=>h.elim
 |d::el,y::xs,h,hn,x,hx=>by
  rcases List.mem_cons.1 hx with rfl|hx
  ·
   obtain⟨hy,d0,d1,d2,rr,rfl,z0,z2⟩:=h.1
   refine⟨hy,q74 z0 h1 hb fun n hm=>hn n ?_,q74 z2 h3 hb fun n hm=>hn n ?_⟩
   ·
    simp only[DataW.weightsAll,DataW.weights,ht,hf,DataW.weightsEach,List.mem_append];exact .inl (.inl hm)
   ·
    simp only[DataW.weightsAll,DataW.weights,ht,hf,DataW.weightsEach,List.mem_append];exact .inl (.inr (.inr (.inl hm)))
  ·
   exact q75 ht hf h1 h3 hb el xs h.2 (fun n hm=>hn n (by simp only[DataW.weightsAll,List.mem_append];exact .inr hm)) x hx
theorem q76 {P:Program}{ts:List TypeId}{ds:List (DataW H)}(h:(DataW.weightsEach P ts ds).all (·≤reachBytes)=true){j:Nat}{t' t t1 t2 t3 e:TypeId}{fs:Array Field}{r:List TypeId}{d:DataW H}{xs:List Inp}(hj:ts[j]? = some t')(hd:ds[j]? = some d)(hu:P.underlying t'=some (.slice t))(ht:P.underlying t=some (.struct fs))(hf:fs.toList.map (·.type)=t1::t2::t3::r)(h1:P.underlying t1=some (.slice e))(h3:P.underlying t3=some (.slice e))(hb:0<P.bytesOf e)(z:DSz ZInp d xs):∀ x∈xs,InB x:=by
 rcases z with rfl|⟨el,sp,rfl,hz⟩
 ·
  intro x hx;simp at hx
 ·
  refine q75 ht hf h1 h3 hb el xs hz fun n hn=>?_
  have:=List.all_eq_true.1 h n (DataW.weights_mem_each hj hd n (by simp[DataW.weights,hu,hn]))
  simpa using this
end
end Go.Eng
namespace Go.Proofs.YtcdppfnjidlknaaGreatDoor
open Go Go.Eng Go.ChangeShapes Go.WideShapes Go.ChangeAt Go.RowKit
abbrev qzR:List (String×DataW Unit):=[("math/bits.deBruijn32tab",Rows.laid_math_bits_deBruijn32tab),("math/bits.deBruijn64tab",Rows.laid_math_bits_deBruijn64tab)]
def tabZ:List Int:=Lib.deBruijn32tab.map fun n:Nat=>(n:Int)
def tabY:List Int:=Lib.deBruijn64tab.map fun n:Nat=>(n:Int)
theorem gT:Tryz.prog.globalNamed "math/bits.deBruijn32tab" = some 0:=by kernel_rfl
theorem tT:(Tryz.prog.globals[0]?).map (·.type)=some 292:=by kernel_rfl
theorem gY:Tryz.prog.globalNamed "math/bits.deBruijn64tab" = some 2:=by kernel_rfl
theorem tY:(Tryz.prog.globals[2]?).map (·.type)=some 308:=by kernel_rfl
theorem lay_is:Rows.laid_math_bits_deBruijn32tab (H:=Unit)=Lib.tabData .u8 tabZ:=rfl
theorem lay_isY:Rows.laid_math_bits_deBruijn64tab (H:=Unit)=Lib.tabData .u8 tabY:=rfl
theorem quk {P:Program} {W:World} {x:String×DataW Unit} {name:String} {k:IntKind} {zs:List Int} {rest:List (String×DataW Unit)} {g:Nat} {t e:TypeId} {n:Nat}
  (hg:P.globalNamed name=some g) (hty:(P.globals[g]?).map (·.type)=some t) (ht:P.underlying t=some (.array n e)) (he:P.underlying e=some (.int k)) (hce:P.cellsOf e=1) (hct:P.cellsOf t=n)
  (h:laidMet P (x::(name,Lib.tabData k zs)::rest) W):Lib.TabIs P W name k zs:=by
 obtain⟨ps,⟨_,_,_,_,_,_,_,_,_,_,⟨g',t',cs,fuel,p,q,hg',ht',hvar,hd,_,_⟩,_⟩,_⟩:=h
 obtain rfl:=Option.some.inj (hg.symm.trans hg')
 obtain rfl:=Option.some.inj (hty.symm.trans ht')
 unfold Lib.TabIs
 rw[hvar,← Lib.cells_of_tab ht he hce hct hd]
theorem qnS {W:World}(h:laidMetH Tryz.prog qzR W):Lib.TabIs Tryz.prog W "math/bits.deBruijn32tab" .u8 tabZ∧Lib.TabIs Tryz.prog W "math/bits.deBruijn64tab" .u8 tabY:=by
 rw[MakeChecks.laidMetH_plain _ _ _ (by kernel_rfl)] at h
 unfold qzR at h
 rw[lay_is,lay_isY] at h
 exact⟨Lib.tabIs_of_head (g:=0) (t:=292) (e:=5) (n:=32) gT tT Tryz.underlying292 Tryz.underlying5 (by kernel_rfl) (by kernel_rfl) h,quk (g:=2) (t:=308) (e:=5) (n:=64) gY tY Tryz.underlying308 Tryz.underlying5 (by kernel_rfl) (by kernel_rfl) h⟩
theorem kt_of {W:World}{b n:Nat}{name:String}{tab:List Nat}(hg:Tryz.prog.globalNamed name=some b)(hn:tab.length=n)(h0:0<n)(ht:Lib.TabIs Tryz.prog W name .u8 (tab.map fun n:Nat=>(n:Int))):Kt b n tab W (· < W.heap.size):=by
 have hc:∀ j,j<n→W.cell? ⟨b,j,none⟩=some (.int .u8 ((tab.getD j 0:Nat):Int)):=fun j hj=>by
  have:=ht.cell hg j (by simpa using hn▸hj)
  rw[this]
  have e:(tab.map fun n:Nat=>(n:Int)).getD j 0=((tab.getD j 0:Nat):Int):=by
   rw[List.getD_eq_getElem?_getD,List.getD_eq_getElem?_getD,List.getElem?_map]
   cases tab[j]?<;>rfl
  rw[e]
 refine⟨?_,hc⟩
 have h1:=hc 0 h0
 rcases Nat.lt_or_ge b W.heap.size with h|h
 ·
  exact h
 ·
  exfalso
  unfold World.cell? at h1
  rw[show W.heap[(⟨b,0,none⟩:Addr).block]? = none from Array.getElem?_eq_none h] at h1
  simp at h1
theorem q3Z {W:World}(h:laidMetH Tryz.prog qzR W):Kc W (· < W.heap.size) :=
 ⟨kt_of gT rfl (by decide) (qnS h).1,kt_of gY rfl (by decide) (qnS h).2⟩
theorem door_met (os:Os)(args:Array Value):laidMetH Tryz.prog qzR ((World.doorLaid Tryz.prog 400 os).forCall (fun _ _=>0) ⟨#[],args,[]⟩).memory :=
 laidMetH_of_parts3 (fuel:=8) (laidMet_of_run' 8 (by kernel_rfl) (by kernel_rfl)) (by kernel_rfl) (by kernel_rfl)
end Go.Proofs.YtcdppfnjidlknaaGreatDoor
namespace Go.Proofs.YtcdppfnjidlknaaGreatDoor
open Go.ChangeShapes Go.WideShapes Go.ChangeAt Go.RowKit Go.Eng
theorem qzQ {s:SiteT}{d:List UInt8}{l:List Inp}{x0:Int}(hs:SWf s)(hl:∀ x∈l,InB x):qie.to.run [.agg (enc 25 s),.agg [.sl 0 d],.sl 24 l,.int .i64 x0] [] (fun r _ _=>r=.bool true):=by
 obtain⟨r,h1,rfl⟩:=qzb hs hl
 have e:qie.run DOps.std AV [.agg (enc 25 s),.agg [.sl 0 d],.sl 24 l,.int .i64 x0] [] (fun x _ _=>some x)=qt7 (qlv s d l x0) fun b=>some (.bool b):=by kernel_rfl
 exact⟨AV,fun x _ _=>some x,.bool true,by rw[e,h1];rfl,fun x _ _ h=>(Option.some.inj h)⟩
theorem ownQ4:ownKnob Tryz.prog.godebug=none:=by kernel_rfl
theorem q5Y:laidOutB Tryz.prog=true:=by kernel_rfl
set_option maxHeartbeats 800000 in
set_option maxRecDepth 100000 in
theorem qui (os:Os) (started:os.Started) (H:Type) (enc:TypeId×Value→H) :
  ReturnsInHanded {} Tryz.checked os 4 .any (fun w args=>(Rows.topLostSpec.pre enc Tryz.prog Tryz.f4 [] false w args∧laidMetH Tryz.prog qzR w)∧sizedMet enc Tryz.prog Tryz.f4 (OpenSpec.ofChange Rows.topLostSpec) false w args) (Rows.topLostSpec.post enc Tryz.prog Tryz.f4 false true false false):=by
 refine returnsInHanded_of_change_and (C:=Tryz.checked) (X:=fun w _=>laidMetH Tryz.prog qzR w) (fun _ _ _ hh h=>h.of_heap hh) ownQ4 started (by kernel_rfl) Tryz.func4
  (ChangeSpec.witness_shaped (enc:=enc) (C:=Tryz.checked) (os:=os) (X:=fun w _=>laidMetH Tryz.prog qzR w) false (World.doorLaid Tryz.prog 400 os) #[.agg #[.int .i64 0,.slice none 0 0,.slice none 0 0,.slice none 0 0,.slice none 0 0,.slice none 0 0,.int .i64 0,.int .i64 0,.int .i64 0,.int .i64 0,.int .i64 0,.slice none 0 0],.agg #[.slice none 0 0],.slice none 0 0,.int .i64 0] 8 rfl (World.shaped_of_RefB (by kernel_rfl) (by kernel_rfl)) (by kernel_rfl) (by kernel_rfl) (by kernel_rfl) (door_met os _)) ?_
 intro W base args ds gs before hval0 hW hcnd hsz hL _
 have hval:∀ (j:Nat) t v,Tryz.f4.params[j]? = some t→args[j]? = some v→Value.okWide Tryz.prog W .any base t v:=hval0
 have hW':=hW
 obtain⟨p,q,hA0,hV,rfl,hfz,hnd⟩:=hW
 have hA:DataW.TrodAll enc Tryz.prog W 0 (fun _=>true) true Tryz.f4.params.toList args.toList ds p:=hA0
 rw[Tryz.params4] at hA hval
 obtain⟨v0,vs0,d0,ds0,p0,q0,hargs,rfl,rfl,h0,r0⟩:=trodAll_cons hA
 obtain⟨v1,vs1,d1,ds1,p1,q1,rfl,rfl,rfl,h1,r1⟩:=trodAll_cons r0
 obtain⟨v2,vs2,d2,ds2,p2,q2,rfl,rfl,rfl,h2,r2⟩:=trodAll_cons r1
 obtain⟨v3,vs3,d3,ds3,p3,q3,rfl,rfl,rfl,h3,r3⟩:=trodAll_cons r2
 obtain⟨rfl,rfl,rfl⟩:=trodAll_nil r3
 obtain rfl:args=#[v0,v1,v2,v3]:=by cases args;simp_all
 obtain⟨rfl,rfl⟩:=trodVars_none hV
 have k0:=h0
 have lt0:∀ x∈p0,x.block<W.heap.size:=by obtain⟨m,hm⟩:=k0;exact DataW.trod_lt m _ _ _ hm
 obtain⟨fuel0,hf0⟩:=h0
 obtain⟨cs0,rfl,hsz0,hcs0⟩:=qwu Tryz.underlying29 (by kernel_rfl) (by kernel_rfl) (hval 0 29 v0 rfl rfl) hf0
 obtain⟨c0_0,c0_1,c0_2,c0_3,c0_4,c0_5,c0_6,c0_7,c0_8,c0_9,c0_10,c0_11,rfl⟩:∃ b0 b1 b2 b3 b4 b5 b6 b7 b8 b9 b10 b11,cs0=#[b0,b1,b2,b3,b4,b5,b6,b7,b8,b9,b10,b11]:=by
  exact arr12 hsz0
 obtain⟨n0_0,y0_0,hy0_0⟩:=hcs0 0 _ _ rfl rfl
 obtain⟨a0_0,e0_0,-,w0_0⟩:=DataW.trod_int Tryz.underlying3 hy0_0
 obtain rfl:c0_0=.int .i64 a0_0:=by simpa using e0_0
 obtain⟨n0_1,y0_1,hy0_1⟩:=hcs0 1 _ _ rfl rfl
 obtain⟨u0_1,xs0_1,e0_1,o0_1,w0_1,z0_1⟩:=qa5 (c:=17) (by decide) Tryz.underlying22 (by kernel_rfl) (q70 Tryz.underlying87 (by kernel_rfl) rfl Tryz.underlying5 Tryz.underlying3 Tryz.underlying3 (by kernel_rfl) (by kernel_rfl) (by kernel_rfl)) hy0_1
 obtain rfl:c0_1=u0_1:=by simpa using e0_1
 obtain⟨n0_2,y0_2,hy0_2⟩:=hcs0 2 _ _ rfl rfl
 obtain⟨u0_2,xs0_2,e0_2,o0_2,w0_2,-⟩:=qa5 (c:=2) (by decide) Tryz.underlying23 (by kernel_rfl) (q5X Tryz.underlying41) hy0_2
 obtain rfl:c0_2=u0_2:=by simpa using e0_2
 obtain⟨n0_3,y0_3,hy0_3⟩:=hcs0 3 _ _ rfl rfl
 obtain⟨u0_3,xs0_3,e0_3,o0_3,w0_3,z0_3⟩:=qa5 (c:=7) (by decide) Tryz.underlying24 (by kernel_rfl) (q3X Tryz.underlying66 Tryz.underlying3 (by kernel_rfl)) hy0_3
 obtain rfl:c0_3=u0_3:=by simpa using e0_3
 obtain⟨n0_4,y0_4,hy0_4⟩:=hcs0 4 _ _ rfl rfl
 obtain⟨u0_4,xs0_4,e0_4,o0_4,w0_4,z0_4⟩:=qa5 (c:=18) (by decide) Tryz.underlying25 (by kernel_rfl) (q71 Tryz.underlying99 (by kernel_rfl) rfl Tryz.underlying41 Tryz.underlying3 Tryz.underlying3 Tryz.underlying3 Tryz.underlying4 (by kernel_rfl) (by kernel_rfl) (by kernel_rfl) (by kernel_rfl) (by kernel_rfl)) hy0_4
 obtain rfl:c0_4=u0_4:=by simpa using e0_4
 obtain⟨n0_5,y0_5,hy0_5⟩:=hcs0 5 _ _ rfl rfl
 obtain⟨u0_5,xs0_5,e0_5,o0_5,w0_5,z0_5⟩:=qa5 (c:=19) (by decide) Tryz.underlying26 (by kernel_rfl) (q72 Tryz.underlying186 (by kernel_rfl) rfl Tryz.underlying3 Tryz.underlying3 Tryz.underlying3 Tryz.underlying3 (by kernel_rfl) (by kernel_rfl) (by kernel_rfl) (by kernel_rfl)) hy0_5
 obtain rfl:c0_5=u0_5:=by simpa using e0_5
 obtain⟨n0_6,y0_6,hy0_6⟩:=hcs0 6 _ _ rfl rfl
 obtain⟨a0_6,e0_6,-,w0_6⟩:=DataW.trod_int Tryz.underlying3 hy0_6
 obtain rfl:c0_6=.int .i64 a0_6:=by simpa using e0_6
 obtain⟨n0_7,y0_7,hy0_7⟩:=hcs0 7 _ _ rfl rfl
 obtain⟨a0_7,e0_7,-,w0_7⟩:=DataW.trod_int Tryz.underlying3 hy0_7
 obtain rfl:c0_7=.int .i64 a0_7:=by simpa using e0_7
 obtain⟨n0_8,y0_8,hy0_8⟩:=hcs0 8 _ _ rfl rfl
 obtain⟨a0_8,e0_8,-,w0_8⟩:=DataW.trod_int Tryz.underlying3 hy0_8
 obtain rfl:c0_8=.int .i64 a0_8:=by simpa using e0_8
 obtain⟨n0_9,y0_9,hy0_9⟩:=hcs0 9 _ _ rfl rfl
 obtain⟨a0_9,e0_9,-,w0_9⟩:=DataW.trod_int Tryz.underlying3 hy0_9
 obtain rfl:c0_9=.int .i64 a0_9:=by simpa using e0_9
 obtain⟨n0_10,y0_10,hy0_10⟩:=hcs0 10 _ _ rfl rfl
 obtain⟨a0_10,e0_10,-,w0_10⟩:=DataW.trod_int Tryz.underlying3 hy0_10
 obtain rfl:c0_10=.int .i64 a0_10:=by simpa using e0_10
 obtain⟨n0_11,y0_11,hy0_11⟩:=hcs0 11 _ _ rfl rfl
 obtain⟨u0_11,xs0_11,e0_11,o0_11,w0_11,-⟩:=qa5 (c:=10) (by decide) Tryz.underlying27 (by kernel_rfl) (q3Y Tryz.underlying68 (by kernel_rfl) rfl Tryz.underlying3 Tryz.underlying3 Tryz.underlying66 Tryz.underlying3 (by kernel_rfl) (by kernel_rfl) (by kernel_rfl) (by kernel_rfl)) hy0_11
 obtain rfl:c0_11=u0_11:=by simpa using e0_11
 have k1:=h1
 have lt1:∀ x∈p1,x.block<W.heap.size:=by obtain⟨m,hm⟩:=k1;exact DataW.trod_lt m _ _ _ hm
 obtain⟨fuel1,hf1⟩:=h1
 obtain⟨cs1,rfl,hsz1,hcs1⟩:=qwu Tryz.underlying32 (by kernel_rfl) (by kernel_rfl) (hval 1 32 v1 rfl rfl) hf1
 obtain⟨c1_0,rfl⟩:∃ b0,cs1=#[b0]:=by
  exact arr1 hsz1
 obtain⟨n1_0,y1_0,hy1_0⟩:=hcs1 0 _ _ rfl rfl
 obtain⟨u1_0,xs1_0,e1_0,o1_0,w1_0,-⟩:=qa5 (c:=0) (by decide) Tryz.underlying30 (by kernel_rfl) (qiA Tryz.underlying5) hy1_0
 obtain rfl:c1_0=u1_0:=by simpa using e1_0
 have k2:=h2
 have lt2:∀ x∈p2,x.block<W.heap.size:=by obtain⟨m,hm⟩:=k2;exact DataW.trod_lt m _ _ _ hm
 obtain⟨xs2,w2,z2⟩:∃ xs:List (ty 24),Rep W (· < W.heap.size) qai v2 (.sl 24 xs)∧DSz ZInp d2 xs:=by
  obtain⟨fuel,hf⟩:=h2
  exact rep_in (c:=24) (by decide) Tryz.underlying33 (by kernel_rfl) (q73 Tryz.underlying43 (by kernel_rfl) rfl Tryz.underlying30 Tryz.underlying41 Tryz.underlying30 Tryz.underlying4 Tryz.underlying3 Tryz.underlying3 Tryz.underlying4 Tryz.underlying5 (by kernel_rfl) (by kernel_rfl) (by kernel_rfl) (by kernel_rfl) (by kernel_rfl) (by kernel_rfl) (by kernel_rfl) (by kernel_rfl)) (hval 2 33 v2 rfl rfl) hf
 obtain⟨a3,rfl,rfl,rfl,w3⟩:=open_int Tryz.underlying3 (hval 3 3 v3 rfl rfl) h3
 clear hA0 hval0
 have hk0_0:kwf .i64 a0_0:=by simpa [Lit.wf,kwf] using w0_0
 have hk0_6:kwf .i64 a0_6:=by simpa [Lit.wf,kwf] using w0_6
 have hk0_7:kwf .i64 a0_7:=by simpa [Lit.wf,kwf] using w0_7
 have hk0_8:kwf .i64 a0_8:=by simpa [Lit.wf,kwf] using w0_8
 have hk0_9:kwf .i64 a0_9:=by simpa [Lit.wf,kwf] using w0_9
 have hk0_10:kwf .i64 a0_10:=by simpa [Lit.wf,kwf] using w0_10
 have hm2:∀ x∈xs2,InB x:=q76 hsz (j:=2) (t':=33) (by rw[Tryz.params4];rfl) rfl Tryz.underlying33 Tryz.underlying43 rfl Tryz.underlying30 Tryz.underlying30 (by decide +kernel) z2
 have hk3:kwf .i64 a3:=by simpa [Lit.wf,kwf] using w3
 refine(qqB qvA.out Tryz.call4 (w:=W) (vals:=#[.agg #[.int .i64 a0_0,c0_1,c0_2,c0_3,c0_4,c0_5,.int .i64 a0_6,.int .i64 a0_7,.int .i64 a0_8,.int .i64 a0_9,.int .i64 a0_10,c0_11],.agg #[c1_0],v2,.int .i64 a3]) (args:=[.agg [.int .i64 a0_0,.sl 17 xs0_1,.sl 2 xs0_2,.sl 7 xs0_3,.sl 18 xs0_4,.sl 19 xs0_5,.int .i64 a0_6,.int .i64 a0_7,.int .i64 a0_8,.int .i64 a0_9,.int .i64 a0_10,.sl 10 xs0_11],.agg [.sl 0 xs1_0],.sl 24 xs2,.int .i64 a3]) rfl (fun j v hj=>?_) (qzQ (s:=⟨a0_0,xs0_1,xs0_2,xs0_3,xs0_4,xs0_5,a0_6,a0_7,a0_8,a0_9,a0_10,xs0_11⟩) (x0:=a3) (dsz_all (Q:=fun p:Phs=>0≤p.groupsf∧p.groupsf<4294967296) (fun _ _ h=>h) z0_4) hm2) (hK:=q3Z hL)).mono fun e W' ⟨he,bel⟩=>?_
 ·
  rcases j with _|_|_|_|j
  ·
   simp at hj;subst hj;refine .agg rfl (fun j v h=>?_) (fun j v h=>?_)<;>rcases j with _|_|_|_|_|_|_|_|_|_|_|_|j<;>simp at h<;>subst h<;>first|rfl|exact .bool|exact .int (by assumption)|assumption
  ·
   simp at hj;subst hj;refine .agg rfl (fun j v h=>?_) (fun j v h=>?_)<;>rcases j with _|j<;>simp at h<;>subst h<;>first|rfl|exact .bool|exact .int (by assumption)|assumption
  ·
   simp at hj;subst hj;exact w2
  ·
   simp at hj;subst hj;exact .int hk3
  ·
   simp at hj
 subst he
 exact⟨_,rfl,_,_,_,[],_,[],hW',trodAll_mk1 (shut_bool Tryz.underlying4 _),(trodAll_cons_mk (Below.trod q5Y (by kernel_rfl) (of_decide_eq_true (by kernel_rfl)) k0 bel lt0) (trodAll_cons_mk (Below.trod q5Y (by kernel_rfl) (of_decide_eq_true (by kernel_rfl)) k1 bel lt1) (trodAll_cons_mk (Below.trod q5Y (by kernel_rfl) (of_decide_eq_true (by kernel_rfl)) k2 bel lt2) (trodAll_cons_mk (shut_int Tryz.underlying3 w3) trodAll_mk0)))),rfl,bel.frame _,fun h=>by cases h⟩
theorem quj:Rows.TopLostSaid :=
 OpenClaim.holds_of_wide 4 Tryz.f4 rfl rfl rfl rfl rfl rfl rfl ⟨rfl,rfl,rfl,rfl,rfl⟩ rfl rfl rfl rfl rfl (by kernel_rfl) Tryz.func4 (by kernel_rfl)
  (of_decide_eq_true (by kernel_rfl)) (by unfold Func.isWrapper;first|(rw[if_pos (by decide +kernel)];kernel_rfl)|(rw[if_neg (by decide +kernel)];exact⟨rfl,rfl⟩))
  (fun os started H enc _=>qui os started H enc)
theorem topLost_said:Rows.TopLostCardSaid :=
 Claim7.holds_tied_plain_at .later [] [.data,.data] true (true, "b3a3731fdcf22dd8478f5c004f5c36384d3de06c1975ca7a561c7ce5f086469e") false
  quj (fun _ h=>by cases h) (by kernel_rfl) (fun _ h=>by cases h) topLost_row_tie rfl ⟨rfl,rfl⟩ (by kernel_rfl) rfl
  (fun f fn hf hfn=>by
   obtain rfl:f=4:=Option.some.inj ((show Tryz.prog.funcNamed "stopline/stoplinetop.TopLost" = some 4 by kernel_rfl).symm.trans hf) |>.symm
   obtain rfl:fn=Tryz.f4:=(Option.some.inj (Tryz.func4.symm.trans hfn)).symm
   exact⟨by kernel_rfl,fun j t ht=>by
    rw[Tryz.params4] at ht
    have hm:t∈[29,32,33,3]:=by simpa using Array.mem_of_getElem? ht
    have hall:([29,32,33,3].all fun u=>!Tryz.prog.wantsStandIn u)=true:=by kernel_rfl
    exact(show Tryz.prog.wantsStandIn t=false by simpa using List.all_eq_true.1 hall t hm)⟩)
  (by kernel_rfl)
#print axioms topLost_said
end Go.Proofs.YtcdppfnjidlknaaGreatDoor
