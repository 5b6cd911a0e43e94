import Derived.Test.YtcdppfnjidlknaaGreatDoorZbg
set_option linter.unusedVariables false
set_option linter.unusedSimpArgs false
namespace Go.Proofs.YtcdppfnjidlknaaGreatDoor
open Go Go.Eng Go.Proofs Go.Wp
theorem alive_ok:q33=some true:=by kernel_rfl
def InT (i:Inp):Prop:=(0≤i.eyesf∧i.eyesf<4294967296)∧i.bytesf.length≤140737488355328∧i.backf.length≤140737488355328
def bb (i:Inp):Int:=(i.bytesf.length:Int)+(i.backf.length:Int)
def FitOk (s:SiteT)(d:List UInt8)(l:List Inp):Prop:=SSm s∧d.length≤5000∧l.length≤200∧∀ i∈l,bb i≤20000
theorem fit_in {s:SiteT}{d:List UInt8}{l:List Inp}(h:FitOk s d l)(t:∀ i∈l,InT i):∀ i∈l,InOk i:=by
  intro i hi
  have h1:=h.2.2.2 i hi
  have h2:=t i hi
  unfold bb at h1
  exact⟨by omega,h2.1,by omega⟩
theorem ql2 {α:Type}{n:Nat}{f:Nat→α}:((List.range n).map f).length=n:=by simp
theorem rng_get {α:Type}{n k:Nat}{f:Nat→α}{d:α}(h:k<n):((List.range n).map f).getD k d=f k:=by
  rw[qdv (by simpa using h)];simp
theorem qzc {s:SiteT}{x:LocT}{l:List Inp}{k:Nat}(hk:k<l.length):((List.range l.length).map (LS s x l)).getD k (dflt 6)=LS s x l k:=rng_get hk
theorem q7k {s:SiteT}:W (q0r s) (fun r=>r=false→SSm s):=by
 unfold q0r quR
 refine W_if (fun c1=>?_) fun c1=>?_
 ·refine qaa ?_
  simp
 ·refine qaj (fun v=>∃ n3,v=((),((s,()),()),n3,())∧(0≤n3∧n3≤s.between.length)∧(Upto (fun z:List Int=>z.length≤40) s.between (dflt 7) n3)) (fun(_,((_,_),_),n3,_)=>(s.between.length-n3).toNat) ⟨_,rfl,by omega,Upto.zero⟩ (by simp only[NN];omega) ?_
  rintro r1 _ ⟨n3,rfl,hr1_0,hr1_1⟩ ihr1
  refine W_if (fun c2=>?_) fun c2=>?_
  ·refine W_ix (by omega) fun z9 hz9=>?_
   refine W_if (fun c3=>?_) fun c3=>?_
   ·refine qaa ?_
    simp
   ·refine qag (by omega) fun n10 hn10=>?_
    exact ihr1.use _ ⟨_,rfl,by omega,hr1_1.succ (by omega) hn10 (by rw[← hz9];omega)⟩ (by dsimp only;omega)
  ·refine qaj (fun v=>∃ n6,v=((),((s,()),()),n6,())∧(0≤n6∧n6≤s.plans.length)∧(Upto (fun p:Plan=>p.splits.length≤40) s.plans (dflt 10) n6)) (fun(_,((_,_),_),n6,_)=>(s.plans.length-n6).toNat) ⟨_,rfl,by omega,Upto.zero⟩ (by simp only[NN];omega) ?_
   rintro r4 _ ⟨n6,rfl,hr4_0,hr4_1⟩ ihr4
   refine W_if (fun c4=>?_) fun c4=>?_
   ·refine W_ix (by omega) fun x7 hx7=>?_
    refine W_if (fun c5=>?_) fun c5=>?_
    ·refine qaa ?_
     simp
    ·refine qag (by omega) fun n8 hn8=>?_
     exact ihr4.use _ ⟨_,rfl,by omega,hr4_1.succ (by omega) hn8 (by rw[← hx7];omega)⟩ (by dsimp only;omega)
   ·refine qaa ?_
    exact fun _=>⟨by omega,hr1_1.all (by omega),hr4_1.all (by omega)⟩
theorem q7l {l:List Inp}(p0:l.length≤200)(p1:∀ i∈l,InT i):W (q0s l) (fun r=>∀ i∈l,bb i≤r):=by
 unfold q0s quS
 refine qaj (fun v=>∃ n3 n4,v=((),(),l,n3,n4,())∧(0≤n4∧n4≤l.length)∧(0≤n3∧n3≤281474976710656*n4+200)∧(FA (fun k=>bb (l.getD k (dflt 24))≤n3) n4)) (fun(_,_,_,n3,n4,_)=>(l.length-n4).toNat) ⟨_,_,rfl,by omega,by omega,FA.zero⟩ (by simp only[NN];omega) ?_
 rintro r1 _ ⟨n3,n4,rfl,hr1_0,hr1_1,hr1_2⟩ ihr1
 refine W_if (fun c1=>?_) fun c1=>?_
 ·refine W_ix (by omega) fun x5 hx5=>?_
  have g5:=qam (d:=dflt 24) (n:=n4) p1 (by omega)
  rw[← hx5] at g5
  obtain⟨g5,g6,g7⟩:=g5
  refine W_ix (by omega) fun x6 hx6=>?_
  have e6:x6=x5:=by rw[hx6,hx5]
  subst e6
  refine W_wi (by omega) fun n7 hn7=>?_
  have e7:n7=bb x6:=by rw[hn7];rfl
  refine W_wi (by omega) fun n8 hn8=>?_
  refine qag (by omega) fun n9 hn9=>?_
  exact ihr1.use _ ⟨_,_,rfl,by omega,by omega,FA.succ (fun k h=>Int.le_trans (hr1_2 k h) (by omega)) (by omega) hn9 (by rw[← hx5];omega)⟩ (by dsimp only;omega)
 ·refine qaa ?_
  intro i hi
  obtain⟨k,hk,e⟩:=List.getElem_of_mem hi
  have:=hr1_2 k (by omega)
  dsimp only at this
  rw[qdv hk,e] at this;exact this
theorem q7m {s:SiteT}{d:List UInt8}{l:List Inp}(p0:∀ i∈l,InT i):W (q09 s d l) (fun r=>r=true→FitOk s d l):=by
 unfold q09 qvh
 refine qab (q7k) ?_
 rintro b1 hb1
 refine W_if (fun c1=>?_) fun c1=>?_
 ·refine qab (q7l (by omega) p0) ?_
  rintro n2 hn2
  refine qaa ?_
  intro h;simp only[decide_eq_true_eq] at h
  exact⟨hb1 (by cases b1<;>simp_all),by omega,by omega,fun i hi=>Int.le_trans (hn2 i hi) h⟩
 ·refine qaa ?_
  simp
theorem qdr {l:List UInt8}(p0:l.length≤1000):W (qcv l) (fun r=>(0≤r∧r≤l.length)∧(r=0↔NoF l)∧(r=l.length↔AllF l)):=by
 unfold qcv qhJ
 refine qaj (fun v=>∃ n3 n4,v=((),(),l,n3,n4,())∧(0≤n4∧n4≤l.length)∧(0≤n3∧n3≤n4)∧(n3=0↔FA (fun i=>La l i≠4) n4)∧(n3=n4↔FA (fun i=>La l i=4) n4)) (fun(_,_,_,n3,n4,_)=>(l.length-n4).toNat) ⟨_,_,rfl,by omega,by omega,⟨fun _=>FA.zero,fun _=>rfl⟩,⟨fun _=>FA.zero,fun _=>rfl⟩⟩ (by simp only[NN];omega) ?_
 rintro r1 _ ⟨n3,n4,rfl,hr1_0,hr1_1,hr1_2,hr1_3⟩ ihr1
 refine W_if (fun c1=>?_) fun c1=>?_
 ·refine W_ix (by omega) fun x5 hx5=>?_
  have e5:(x5.toNat:Int)=La l n4.toNat:=by rw[hx5];rfl
  refine W_if (fun c2=>?_) fun c2=>?_
  ·refine qag (by omega) fun n7 hn7=>?_
   refine qag (by omega) fun n8 hn8=>?_
   exact ihr1.use _ ⟨_,_,rfl,by omega,by omega,⟨fun h=>by omega,fun h=>by have:=h n4.toNat (by omega);dsimp only at this;omega⟩,⟨fun h=>FA.succ (hr1_3.1 (by omega)) (by omega) (by omega) (by omega),fun h=>by have:=hr1_3.2 (fun k hk=>h k (by omega));omega⟩⟩ (by dsimp only;omega)
  ·refine qag (by omega) fun n6 hn6=>?_
   exact ihr1.use _ ⟨_,_,rfl,by omega,by omega,⟨fun h=>FA.succ (hr1_2.1 (by omega)) (by omega) (by omega) (by omega),fun h=>hr1_2.2 (fun k hk=>h k (by omega))⟩,⟨fun h=>by omega,fun h=>by have:=h n4.toNat (by omega);dsimp only at this;omega⟩⟩ (by dsimp only;omega)
 ·refine qaa ?_
  have e:n4=l.length:=by omega
  subst e;exact⟨by omega,hr1_2,hr1_3⟩
theorem qt2 {s:SiteT}(p0:SOk s):W (qiZ s) (fun r=>IsG s r):=by
 unfold qiZ qoU
 obtain⟨⟨q1,q2,q3,q4,q5,q6,q7,q8⟩,q9⟩:=p0.shape
 refine qaj (fun v=>∃ n3 n4,v=((),((s,()),()),n3,n4,())∧(0≤n4∧n4≤s.between.length)∧(0≤n3∧n3≤1048576)∧(FA (fun a=>FA (fun b=>bt s a b≤n3) s.groups.length) n4)∧(n3=0∨∃ a b:Nat,a<s.groups.length∧b<s.groups.length∧bt s a b=n3)) (fun(_,((_,_),_),n3,n4,_)=>(s.between.length-n4).toNat) ⟨_,_,rfl,by omega,by omega,FA.zero,.inl rfl⟩ (by simp only[NN];omega) ?_
 rintro r1 _ ⟨n3,n4,rfl,hr1_0,hr1_1,hr1_2,hr1_3⟩ ihr1
 refine W_if (fun c1=>?_) fun c1=>?_
 ·refine qaj (fun v=>∃ n7 n9,v=((),((s,()),()),n7,n4,n9,())∧(0≤n9∧n9≤s.groups.length)∧(0≤n7∧n7≤1048576)∧(FA (fun a=>FA (fun b=>bt s a b≤n7) s.groups.length) n4)∧(n7=0∨∃ a b:Nat,a<s.groups.length∧b<s.groups.length∧bt s a b=n7)∧(FA (fun b=>bt s n4.toNat b≤n7) n9)) (fun(_,((_,_),_),n7,_,n9,_)=>((s.groups.length:Int)-n9).toNat) ⟨_,_,rfl,by omega,by omega,hr1_2,hr1_3,FA.zero⟩ (by simp only[NN];omega) ?_
  rintro r5 _ ⟨n7,n9,rfl,hr5_0,hr5_1,hr5_2,hr5_3,hr5_4⟩ ihr5
  refine W_ix (by omega) fun z10 hz10=>?_
  have g10:=qam (d:=dflt 7) (n:=n4) q9 (by omega)
  rw[← hz10] at g10
  refine W_if (fun c2=>?_) fun c2=>?_
  ·refine W_ix (by omega) fun z12 hz12=>?_
   have e12:z12=z10:=by rw[hz12,hz10]
   subst e12
   refine W_ix (by omega) fun n13 hn13=>?_
   have pk:=(p0.apart.2.all (k:=n4) (by omega)).all (k:=n9) (by omega)
   have e13:n13=bt s n4.toNat n9.toNat:=by rw[hn13,hz12];rfl
   have b13:0≤n13∧n13≤1048576:=by
    cases h:ap s n4.toNat n9.toNat
    · have:=pk.2.2 h;omega
    · have:=(pk.2.1 h).2;have:=p0.apart.1 _ (qck (d:=dflt 17) (n:=n4) (by omega));unfold Tk at this;omega
   refine qac fun n14 hn14=>?_
   refine qag (by omega) fun n15 hn15=>?_
   exact ihr5.use _ ⟨_,_,rfl,by omega,by omega,fun a h b hb=>Int.le_trans (hr5_2 a h b hb) (by omega),by rw[hn14];exact mx_ex hr5_3 (by omega) (by omega) e13,FA.succ (fun b h=>Int.le_trans (hr5_4 b h) (by omega)) (by omega) hn15 (by omega)⟩ (by dsimp only;omega)
  ·refine qag (by omega) fun n11 hn11=>?_
   exact ihr1.use _ ⟨_,_,rfl,by omega,by omega,FA.succ hr5_2 (by omega) hn11 (fun b h=>hr5_4 b (by omega)),hr5_3⟩ (by dsimp only;omega)
 ·refine qaa ?_
  exact⟨hr1_1,fun a h=>hr1_2 a (by omega),hr1_3⟩
end Go.Proofs.YtcdppfnjidlknaaGreatDoor
namespace Go.Proofs.YtcdppfnjidlknaaGreatDoor
open Go Go.Eng Go.Proofs Go.Wp
theorem Ran.len {s:SiteT}{x y:LocT}{i:Inp}{l:List UInt8}(r:Ran s x i y l):l.length=s.groups.length∧(AllF l∨NoF l):=by
 by_cases c:i.lostf=true
 ·
  have:=(r.lost c).all
  subst this
  exact⟨by simp,.inl fun k hk=>rep4 (by simpa using hk)⟩
 ·
  obtain⟨h,g⟩:=(r.went (by simpa using c)).nf
  exact⟨h,g.imp id fun g=>g.1⟩
theorem Ran.now {s:SiteT}{x y:LocT}{i:Inp}{l:List UInt8}(r:Ran s x i y l):qht s x.seen x.start x.flashed l y.seen y.start y.flashed:=by
 by_cases c:i.lostf=true
 ·
  exact(r.lost c).now
 ·
  exact(r.went (by simpa using c)).now
theorem Ran.nf {s:SiteT}{x y:LocT}{i:Inp}{l:List UInt8}(r:Ran s x i y l):qaX s x.seen x.start x.flashed l:=by
 by_cases c:i.lostf=true
 ·
  have:=(r.lost c).all
  subst this
  exact⟨by simp,.inl fun k hk=>rep4 (by simpa using hk)⟩
 ·
  exact(r.went (by simpa using c)).nf
theorem Ran.lit {s:SiteT}{x y:LocT}{i:Inp}{l:List UInt8}(r:Ran s x i y l):FA (fun k=>La l k=As y.seen k) s.groups.length:=by
 intro k hk
 have:=r.now.1.2 k hk
 dsimp only at this ⊢
 unfold As
 rw[this];rfl
theorem q7n {s:SiteT}{l:List UInt8}{r:Int}(ok:SOk s)(h:l.length=s.groups.length∧(AllF l∨NoF l))(g:(0≤r∧r≤l.length)∧(r=0↔NoF l)∧(r=l.length↔AllF l)):(r > 0↔AllF l)∧(r=s.groups.length↔AllF l):=by
 have q:=ok.shape.1
 obtain⟨h1,h2⟩:=h
 obtain⟨g1,g2,g3⟩:=g
 refine⟨⟨fun c=>?_,fun c=>?_⟩,by rw[← h1];exact g3⟩
 ·
  rcases h2 with h|h
  ·
   exact h
  ·
   have:=g2.2 h;omega
 ·
  have:=g3.2 c;omega
end Go.Proofs.YtcdppfnjidlknaaGreatDoor
namespace Go.Proofs.YtcdppfnjidlknaaGreatDoor
open Go Go.Eng Go.Proofs Go.Wp
theorem IsG.uniq {s:SiteT}{a b:Int}(h:IsG s a)(g:IsG s b):a=b:=by
 obtain⟨h1,h2,h3⟩:=h
 obtain⟨g1,g2,g3⟩:=g
 have p:a≤b:=by
  rcases h3 with h|⟨i,j,hi,hj,e⟩
  ·
   omega
  ·
   have:=g2 i (by omega) j (by omega);dsimp only at this;omega
 have q:b≤a:=by
  rcases g3 with h|⟨i,j,hi,hj,e⟩
  ·
   omega
  ·
   have:=h2 i (by omega) j (by omega);dsimp only at this;omega
 omega
end Go.Proofs.YtcdppfnjidlknaaGreatDoor
namespace Go.Proofs.YtcdppfnjidlknaaGreatDoor
open Go Go.Eng Go.Proofs Go.Wp
set_option maxHeartbeats 2000000
def Gi (z:List Int)(i:Nat):Int:=z.getD i 0
structure Trc (s:SiteT) (Z:Nat→List SeenT) (St:Nat→Int) (Fl:Nat→Bool) (tr:List (List UInt8)):Prop where
  z0:Z 0=List.replicate s.groups.length ⟨1,1,1048576⟩
  s0:IsG s (St 0)
  f0:Fl 0=false
  ok:∀ k:Nat,k≤tr.length→qaM s (Z k) (St k) (Fl k)
  nf:∀ k:Nat,k<tr.length→qaX s (Z k) (St k) (Fl k) (tr.getD k (dflt 6))
  bh:∀ k:Nat,k<tr.length→qht s (Z k) (St k) (Fl k) (tr.getD k (dflt 6)) (Z (k+1)) (St (k+1)) (Fl (k+1))
structure GI (g:Grp) (z:SeenT) (fl:Bool) (i w r n:Int):Prop where
  hf:fl=true→w=1∧r=1∧n = -1
  hw:fl=false→w=z.aspectf
  hr:fl=false→z.aspectf≠1→r=kep z.sincef
  hn:fl=false→0≤n→z.endedf=i-n-1
  hy:fl=false→z.aspectf=3→r≤g.yellowf
  hb:(1≤r∧r≤i+1)∧-1≤n∧n<i
def GIs (s:SiteT)(z:List SeenT)(fl:Bool)(i:Int)(w:List UInt8)(r n:List Int)(k:Nat):Prop:=GI (s.groups.getD k (dflt 17)) (z.getD k (dflt 20)) fl i (La w k) (Gi r k) (Gi n k)
structure SI (s:SiteT) (z:List SeenT) (st:Int) (fl:Bool) (i:Int) (w:List UInt8) (r n:List Int) (due:Int) (b:Bool):Prop where
  ln:w.length=s.groups.length∧r.length=s.groups.length∧n.length=s.groups.length
  hd:due=st
  hb:b=fl
  hg:fl=true→IsG s st
  at':FA (GIs s z fl i w r n) s.groups.length
def Fol (g:Grp)(was ran now:Int):Prop:=(was=1∧(now=1∨now=2))∨(was=2∧(now=2∨now=3∧g.minf≤ran))∨(was=3∧(now=3∧ran<g.yellowf∨now=1∧ran=g.yellowf))
theorem gi_fol {g:Grp}{z:SeenT}{fl:Bool}{i w r n a:Int}(h:GI g z fl i w r n)(hf:fl=true→a=1)(hm:fl=false→qaW g z a):Fol g w r a:=by
  unfold Fol
  cases hfl:fl
  · have m:=hm hfl
    obtain⟨m1,m2,m3,m4,m5⟩:=m
    have h1:=h.hw hfl
    have h2:=h.hr hfl
    have h3:=h.hy hfl
    omega
  · have:=h.hf hfl
    have:=hf hfl
    omega
theorem gi_next {g:Grp}{z:SeenT}{fl:Bool}{i w r n a:Int}(h:GI g z fl i w r n)(hi:0≤i∧i≤1000)(hg:1≤g.yellowf)(h13:1≤a∧a≤3)(hf:fl=true→a=1)(hm:fl=false→qaW g z a):GI g (nx z a) false (i+1) a (if a=w then r+1 else 1) (if a=2 then i else n):=by
  have hb:=h.hb
  cases hfl:fl
  · obtain⟨m1,m2,m3,m4,m5⟩:=hm hfl
    have h1:=h.hw hfl
    have h2:=h.hr hfl
    have h3:=h.hy hfl
    have h4:=h.hn hfl
    subst h1
    refine⟨fun e=>(by cases e),fun _=>rfl,fun _ e=>?_,fun _ e=>?_,fun _ e=>?_,?_⟩
    · show _=kep (nx z a).sincef
      have e':a≠1:=e
      unfold nx
      dsimp only
      by_cases c:a=z.aspectf
      · rw[if_pos c,if_pos c];have:=h2 (by omega);unfold mor kep;unfold kep at this;omega
      · rw[if_neg c,if_neg c];rfl
    · show (nx z a).endedf=_
      unfold nx
      dsimp only
      by_cases c:a=2
      · rw[if_pos c,if_pos c];omega
      · rw[if_neg c] at e;rw[if_neg c,if_neg c];have:=h4 e;unfold mor kep;omega
    · have e':a=3:=e
      by_cases c:a=z.aspectf
      · rw[if_pos c];have:=h2 (by omega);omega
      · rw[if_neg c];omega
    · by_cases c:a=z.aspectf<;>by_cases d:a=2<;>simp only[c,d,if_true,if_false]<;>(try rw[if_pos c])<;>(try rw[if_neg c])<;>omega
  · have h1:=h.hf hfl
    have h2:=hf hfl
    obtain⟨rfl,rfl,rfl⟩:=h1
    subst h2
    refine⟨fun e=>(by cases e),fun _=>rfl,fun _ e=>absurd rfl e,fun _ e=>?_,fun _ e=>?_,?_⟩
    · simp at e
    · have:(1:Int)=3:=e;omega
    · simp;omega
theorem si_flash {s:SiteT}{z:List SeenT}{st due i:Int}{w:List UInt8}{r n:List Int}(hi:0≤i)(h1:w.length=s.groups.length∧r.length=s.groups.length∧n.length=s.groups.length)(h:FA (fun k=>La w k=1∧Gi r k=1∧Gi n k = -1) s.groups.length)(g1:IsG s st)(g2:IsG s due):SI s z st true i w r n due true :=
  ⟨h1,g2.uniq g1,rfl,fun _=>g1,fun k hk=>⟨fun _=>h k hk,fun e=>(by cases e),fun e=>(by cases e),fun e=>(by cases e),fun e=>(by cases e),by have:=h k hk;dsimp only at this;omega⟩⟩
theorem si_0 {s:SiteT}{z:List SeenT}{st due:Int}{w:List UInt8}{r n:List Int}(hz:z=List.replicate s.groups.length ⟨1,1,1048576⟩)(h1:w.length=s.groups.length∧r.length=s.groups.length∧n.length=s.groups.length)(h:FA (fun k=>La w k=1∧Gi r k=1∧Gi n k = -1) s.groups.length)(g1:IsG s st)(g2:IsG s due):SI s z st false 0 w r n due false:=by
  refine⟨h1,g2.uniq g1,rfl,fun e=>(by cases e),fun k hk=>?_⟩
  have e:=h k hk
  dsimp only at e
  have ez:z.getD k (dflt 20)=⟨1,1,1048576⟩:=by
    subst hz
    rw[List.getD_eq_getElem?_getD,List.getElem?_replicate,if_pos (by omega)];rfl
  show GI _ (z.getD k (dflt 20)) _ _ _ _ _
  rw[ez]
  exact⟨fun e=>(by cases e),fun _=>e.1,fun _ e=>absurd rfl e,fun _ g=>by omega,fun _ e=>by have:(1:Int)=3:=e;omega,by omega⟩
structure Upd {α:Type} (z z':List α) (d:α) (n:Int) (x:α):Prop where
  len:z'.length=z.length
  at':z'.getD n.toNat d=x
  ne:∀ k:Nat,(k:Int)≠n→z'.getD k d=z.getD k d
theorem Upd.set {α:Type}{z z':List α}{d:α}{n:Int}{x:α}(b:0≤n∧n<z.length)(e:z'=z.set (0+n.toNat) x):Upd z z' d n x:=by
  subst e
  rw[show 0+n.toNat=n.toNat by omega]
  refine⟨by rw[List.length_set],?_,fun k hk=>?_⟩
  · rw[List.getD_eq_getElem?_getD,List.getElem?_set_self (by omega)];rfl
  · rw[List.getD_eq_getElem?_getD,List.getElem?_set_ne (by omega),← List.getD_eq_getElem?_getD]
theorem Upd.again {α:Type}{z z1 z':List α}{d:α}{n:Int}{x y:α}(h:Upd z z1 d n y)(b:0≤n∧n<z.length)(e:z'=z1.set (0+n.toNat) x):Upd z z' d n x:=by
  have g:=Upd.set (d:=d) (by rw[h.len];exact b) e
  exact⟨g.len.trans h.len,g.at',fun k hk=>(g.ne k hk).trans (h.ne k hk)⟩
theorem Upd.same {α:Type}{z:List α}{d:α}{n:Int}:Upd z z d n (z.getD n.toNat d):=⟨rfl,rfl,fun _ _=>rfl⟩
structure Half (l w:List UInt8) (r g:List Int) (i:Int) (w':List UInt8) (r' g':List Int) (n:Int):Prop where
  len:w'.length=w.length∧r'.length=r.length∧g'.length=g.length
  new:FA (fun k=>La w' k=La l k∧Gi r' k=(if La l k=La w k then Gi r k+1 else 1)∧Gi g' k=if La l k=2 then i else Gi g k) n
  old:∀ k:Nat,n≤(k:Int)→La w' k=La w k∧Gi r' k=Gi r k∧Gi g' k=Gi g k
theorem half_0 (l w:List UInt8)(r g:List Int)(i:Int):Half l w r g i w r g 0:=⟨⟨rfl,rfl,rfl⟩,FA.zero,fun _ _=>⟨rfl,rfl,rfl⟩⟩
theorem qjT {l w w1 w2:List UInt8}{r g r1 g1 r2 g2:List Int}{i n m y v:Int}{x:UInt8}(h:Half l w r g i w1 r1 g1 n)(hn:0≤n)(e:m=n+1)(hw:Upd w1 w2 0 n x)(ex:(x.toNat:Int)=La l n.toNat)(hr:Upd r1 r2 0 n y)(ey:y=if La l n.toNat=La w n.toNat then Gi r n.toNat+1 else 1)(hg:Upd g1 g2 0 n v)(ev:v=if La l n.toNat=2 then i else Gi g n.toNat):Half l w r g i w2 r2 g2 m:=by
  refine⟨⟨hw.len.trans h.len.1,hr.len.trans h.len.2.1,hg.len.trans h.len.2.2⟩,fun k hk=>?_,fun k hk=>?_⟩
  · by_cases c:(k:Int)=n
    · subst c
      simp only[Int.toNat_natCast] at *
      refine⟨?_,?_,?_⟩
      · unfold La;have:=hw.at';simp only[Int.toNat_natCast] at this;rw[this,ex];rfl
      · unfold Gi;have:=hr.at';simp only[Int.toNat_natCast] at this;rw[this,ey];rfl
      · unfold Gi;have:=hg.at';simp only[Int.toNat_natCast] at this;rw[this,ev];rfl
    · obtain⟨h1,h2,h3⟩:=h.new k (by omega)
      refine⟨?_,?_,?_⟩
      · unfold La at *;rw[hw.ne k c];exact h1
      · show r2.getD k 0=_;rw[hr.ne k c];exact h2
      · show g2.getD k 0=_;rw[hg.ne k c];exact h3
  · have c:(k:Int)≠n:=by omega
    obtain⟨h1,h2,h3⟩:=h.old k (by omega)
    refine⟨?_,?_,?_⟩
    · unfold La at *;rw[hw.ne k c];exact h1
    · show r2.getD k 0=_;rw[hr.ne k c];exact h2
    · show g2.getD k 0=_;rw[hg.ne k c];exact h3
theorem si_next {s:SiteT}{z z':List SeenT}{st st' due i:Int}{fl fl' b:Bool}{l w w':List UInt8}{r n r' n':List Int}(ok:SOk s)(so:qaM s z st fl)(h:SI s z st fl i w r n due b)(hi:0≤i∧i≤1000)(nf:qaX s z st fl l)(na:¬ AllF l)(bh:qht s z st fl l z' st' fl')(hh:Half l w r n i w' r' n' s.groups.length):SI s z' st' fl' (i+1) w' r' n' (max 0 (due-1)) false:=by
  obtain⟨⟨b1,b2⟩,b3,G,hG,b4⟩:=bh
  obtain⟨nl,nf⟩:=nf
  obtain⟨n1,n2,n3,n4,n5⟩:=nf.resolve_left na
  have f':fl'=false:=by
    cases e:fl'
    · rfl
    · exact absurd (b3.1 e) na
  subst f'
  refine⟨⟨hh.len.1.trans h.ln.1,hh.len.2.1.trans h.ln.2.1,hh.len.2.2.trans h.ln.2.2⟩,?_,rfl,fun e=>(by cases e),fun k hk=>?_⟩
  · rw[b4,if_neg (by simp),h.hd]
    cases e:fl
    · simp
    · rw[if_pos rfl,(h.hg e).uniq hG]
  · have g:=h.at' k hk
    obtain⟨h1,h2,h3⟩:=hh.new k hk
    have ez:=b2 k hk
    dsimp only at ez
    show GI _ (z'.getD k (dflt 20)) _ _ _ _ _
    rw[ez,h1,h2,h3]
    have gm:1≤(s.groups.getD k (dflt 17)).yellowf:=(ok.apart.1 _ (qck (n:=(k:Int)) (by omega))).2.1
    have hf:fl=true→La l k=1:=fun e=>n2 (.inl e) k (by omega)
    refine gi_next g hi gm ?_ hf (fun e=>n3 e k hk)
    cases e:fl
    · exact(n3 e k hk).2.1
    · have:=hf e;omega
def MeetOk (s:SiteT)(now was:List UInt8)(gr:List Int)(t:Int):Prop:=∀ a b:Nat,a<s.groups.length→b<s.groups.length→ap s a b=true→(La now a=1∨La now b=1)∧(La now b=2→La was b≠2→0≤Gi gr a→bt s a b≤t-Gi gr a-1)
theorem meet_ok {s:SiteT}{z:List SeenT}{st due i:Int}{fl b:Bool}{l w:List UInt8}{r n:List Int}(ok:SOk s)(so:qaM s z st fl)(h:SI s z st fl i w r n due b)(nf:qaX s z st fl l)(na:¬ AllF l):MeetOk s l w n i:=by
  obtain⟨nl,nf⟩:=nf
  obtain⟨n1,n2,n3,n4,n5⟩:=nf.resolve_left na
  have mt:∀ a b:Nat,a<s.groups.length→b<a→ap s a b=true→La l a=1∨La l b=1:=by
    intro a b ha hb p
    by_cases c:La l a=1
    · exact .inl c
    · by_cases d:La l b=1
      · exact .inr d
      · have:=n4 a (by omega) c b (by omega) d;rw[p] at this;cases this
  intro a c ha hc p
  have pk:=ok.apart.2 a (by omega) c (by omega)
  have ne:=(pk.2.1 p).1
  refine⟨?_,fun e1 e2 e3=>?_⟩
  · rcases Nat.lt_or_ge c a with d|d
    · exact mt a c ha d p
    · exact(mt c a hc (by omega) (pk.1▸p)).symm
  · cases hf:fl
    · have g:=h.at' a (by omega)
      have g2:=h.at' c (by omega)
      have e4:=g2.hw hf
      have lz:=so.1
      have:=n5 c (by omega) e1 (by unfold As;rw[← e4];exact e2) a (by rw[so.1];omega) p
      have e5:=g.hn hf e3
      unfold En at this
      omega
    · have:=n2 (.inl hf) c (by omega)
      dsimp only at this;omega
theorem fill3 {z z':List UInt8}{r r' g g':List Int}{n m:Int}(h:FA (fun k=>La z k=1∧Gi r k=1∧Gi g k = -1) n)(hn:0≤n)(e:m=n+1)(b:n<z.length∧n<r.length∧n<g.length)(hz:z'=z.set (0+n.toNat) (UInt8.ofNat 1))(hr:r'=r.set (0+n.toNat) 1)(hg:g'=g.set (0+n.toNat) (-1)):(z'.length=z.length∧r'.length=r.length∧g'.length=g.length)∧FA (fun k=>La z' k=1∧Gi r' k=1∧Gi g' k = -1) m:=by
  have u1:=Upd.set (d:=(0:UInt8)) (by omega) hz
  have u2:=Upd.set (d:=(0:Int)) (by omega) hr
  have u3:=Upd.set (d:=(0:Int)) (by omega) hg
  refine⟨⟨u1.len,u2.len,u3.len⟩,fun k hk=>?_⟩
  unfold La Gi
  dsimp only
  by_cases c:(k:Int)=n
  · subst c
    have h1:=u1.at';have h2:=u2.at';have h3:=u3.at'
    simp only[Int.toNat_natCast] at h1 h2 h3
    rw[h1,h2,h3];exact⟨rfl,rfl,rfl⟩
  · rw[u1.ne k c,u2.ne k c,u3.ne k c];exact h k (by omega)
theorem apart_eq {s:SiteT}{a b n2 n3 n4:Int}{x:UInt32}(hb':0≤b∧b<32)(e1:x=s.apart.getD a.toNat 0)(e2:n2=b)(e3:n3=(x.toNat:Int).fdiv ((2:Int) ^ min n2.toNat IntKind.u32.bits))(e4:n4=n3.tmod 2):(n4==(1:Int))=ap s a.toNat b.toNat:=by
  subst e4;subst e3;subst e2;subst e1
  have h:=qca (s.apart.getD a.toNat 0)
  have e1:min n2.toNat IntKind.u32.bits=n2.toNat:=by simp[IntKind.bits];omega
  have e:((2:Int) ^ n2.toNat)=((2 ^ n2.toNat:Nat):Int):=by simp
  rw[e1,e,Int.fdiv_eq_ediv_of_nonneg _ (Int.natCast_nonneg _),← Int.natCast_ediv]
  unfold ap hb
  rw[Int.toNat_natCast,Int.toNat_natCast,Nat.testBit_eq_decide_div_mod_eq]
  have e2:∀ q:Nat,((q:Int).tmod 2==1)=decide (q % 2=1):=fun q=>by rw[Int.tmod_eq_emod_of_nonneg (Int.natCast_nonneg q),Bool.eq_iff_iff,beq_iff_eq,decide_eq_true_eq];omega
  exact e2 _
theorem u8_id (x:UInt8):((UInt8.ofNat ((x.toNat:Int)).toNat).toNat:Int)=x.toNat:=by rw[Int.toNat_natCast,UInt8.ofNat_toNat]
theorem si_red {s:SiteT}{z:List SeenT}{st due i:Int}{fl b:Bool}{l w:List UInt8}{r n:List Int}(so:qaM s z st fl)(h:SI s z st fl i w r n due b)(nf:qaX s z st fl l)(na:¬ AllF l):((due > 0∨b=true)→AllR l)∧0≤due∧due≤1048576:=by
  obtain⟨-,nf⟩:=nf
  obtain⟨-,n2,-⟩:=nf.resolve_left na
  have:=so.2.1
  rw[h.hd,h.hb]
  exact⟨fun g=>n2 (g.symm.imp id id),this⟩
theorem si_fol {s:SiteT}{z:List SeenT}{st due i:Int}{fl b:Bool}{l w:List UInt8}{r n:List Int}(h:SI s z st fl i w r n due b)(nf:qaX s z st fl l)(na:¬ AllF l):FA (fun k=>Fol (s.groups.getD k (dflt 17)) (La w k) (Gi r k) (La l k)) s.groups.length:=by
  obtain⟨nl,nf⟩:=nf
  obtain⟨n1,n2,n3,n4,n5⟩:=nf.resolve_left na
  intro k hk
  exact gi_fol (h.at' k hk) (fun e=>n2 (.inl e) k (by omega)) (fun e=>n3 e k hk)
def L3 (s:SiteT)(w:List UInt8)(r n:List Int):Prop:=w.length=s.groups.length∧r.length=s.groups.length∧n.length=s.groups.length
theorem nxN {n:Int}(h:0≤n):(n+1).toNat=n.toNat+1:=by omega
theorem L3.up {s:SiteT}{w w':List UInt8}{r n r' n':List Int}(h:L3 s w r n)(e:w'.length=w.length∧r'.length=r.length∧n'.length=n.length):L3 s w' r' n':=⟨e.1.trans h.1,e.2.1.trans h.2.1,e.2.2.trans h.2.2⟩
def FlP (s:SiteT)(l:List UInt8)(r:Int):Prop:=(r > 0↔AllF l)∧(r=s.groups.length↔AllF l)
theorem flp {s:SiteT}{z:List SeenT}{st:Int}{fl:Bool}{l:List UInt8}(ok:SOk s)(nf:qaX s z st fl l):∀ r:Int,((0≤r∧r≤l.length)∧(r=0↔NoF l)∧(r=l.length↔AllF l))→FlP s l r :=
  fun r h=>q7n ok ⟨nf.1,nf.2.imp id fun h=>h.1⟩ h
theorem q4I {s:SiteT}{z z':List SeenT}{st st' i due:Int}{fl fl':Bool}{l w:List UInt8}{r n:List Int}(h1:w.length=s.groups.length∧r.length=s.groups.length∧n.length=s.groups.length)(h:FA (fun k=>La w k=1∧Gi r k=1∧Gi n k = -1) s.groups.length)(bh:qht s z st fl l z' st' fl')(af:AllF l)(g:IsG s due)(hi:0≤i):SI s z' st' true i w r n due true:=by
  obtain⟨-,b2,G,hG,b3⟩:=bh
  rw[if_pos (b2.2 af)] at b3
  exact si_flash hi h1 h (b3▸hG) g
theorem qvO {g:Grp}{was:Int}{ran:Int}{now:Int}:W (qer g was ran now) (fun r=>r=true↔Fol g was ran now):=by
 unfold qer qfz
 refine W_if (fun c1=>?_) fun c1=>?_
 ·refine qaa ?_
  unfold Fol;(try simp_all)<;>omega
 ·refine W_if (fun c2=>?_) fun c2=>?_
  ·refine qaa ?_
   unfold Fol;(try simp_all)<;>omega
  ·refine W_if (fun c3=>?_) fun c3=>?_
   ·refine qaa ?_
    unfold Fol;(try simp_all)<;>omega
   ·refine qaa ?_
    unfold Fol;(try simp_all)<;>omega
theorem q4J {s:SiteT}{a:Int}{b:Int}(p0:SOk s)(p1:(0≤a∧a<s.groups.length)∧0≤b∧b<s.groups.length):W (quO s a b) (fun r=>r=ap s a.toNat b.toNat):=by
 unfold quO qoT
 obtain⟨⟨q1,q2,q3,q4,q5,q6,q7,q8⟩,q9⟩:=p0.shape
 refine W_ix (by omega) fun x1 hx1=>?_
 refine W_wu (by omega) fun n2 hn2=>?_
 refine qae (by first|omega|(rw[List.length_drop];omega)|(simp<;>omega)) ?_
 refine qac fun n3 hn3=>?_
 refine qac fun n4 hn4=>?_
 refine qaa ?_
 exact apart_eq ⟨by omega,by omega⟩ hx1 hn2 hn3 hn4
theorem q4K {s:SiteT}{now:List UInt8}{was:List UInt8}{greens:List Int}{t:Int}(p0:SOk s)(p1:now.length=s.groups.length∧was.length=s.groups.length∧greens.length=s.groups.length)(p2:0≤t∧t≤1000)(p3:MeetOk s now was greens t)(p4:FA (fun k=>-1≤Gi greens k∧Gi greens k<t) s.groups.length):W (qng s now was greens t) (fun r=>r=false):=by
 unfold qng qpu
 obtain⟨⟨q1,q2,q3,q4,q5,q6,q7,q8⟩,q9⟩:=p0.shape
 refine qaj (fun v=>∃ n7,v=((),((s,()),()),now,was,greens,t,n7,())∧(0≤n7∧n7≤now.length)) (fun(_,((_,_),_),_,_,_,_,n7,_)=>(now.length-n7).toNat) ⟨_,rfl,by first|omega|(simp<;>omega)⟩ (by simp only[NN];omega) ?_
 rintro r1 _ ⟨n7,rfl,hr1_0⟩ ihr1
 refine W_if (fun c1=>?_) fun c1=>?_
 ·refine qaj (fun v=>∃ n15,v=((),((s,()),()),now,was,greens,t,n7,n15,())∧(0≤n15∧n15≤now.length)) (fun(_,((_,_),_),_,_,_,_,_,n15,_)=>(now.length-n15).toNat) ⟨_,rfl,by first|omega|(simp<;>omega)⟩ (by simp only[NN];omega) ?_
  rintro r8 _ ⟨n15,rfl,hr8_0⟩ ihr8
  refine W_if (fun c2=>?_) fun c2=>?_
  ·refine qab (q4J p0 (by omega)) ?_
   rintro b17 hb17
   refine W_if (fun c3=>?_) fun c3=>?_
   ·refine qag (by omega) fun n29 hn29=>?_
    exact ihr8.use _ ⟨_,rfl,by first|omega|(simp<;>omega)⟩ (by dsimp only;omega)
   ·refine W_ix (by omega) fun x18 hx18=>?_
    have e18:(x18.toNat:Int)=La now n7.toNat:=by rw[hx18];rfl
    refine qae (by first|omega|(rw[List.length_drop];omega)|(simp<;>omega)) ?_
    refine qac fun x19 hx19=>?_
    have e19:(x19.toNat:Int)=La now n15.toNat:=by rw[hx19];rfl
    refine W_if (fun c5=>?_) fun c5=>?_
    ·exfalso
     have mk:=p3 n7.toNat n15.toNat (by omega) (by omega) (by rw[← hb17];exact Classical.not_not.1 c3)
     omega
    ·refine W_ix (by omega) fun x20 hx20=>?_
     have e20:(x20.toNat:Int)=La now n15.toNat:=by rw[hx20];rfl
     refine qae (by first|omega|(rw[List.length_drop];omega)|(simp<;>omega)) ?_
     refine qac fun x21 hx21=>?_
     have e21:(x21.toNat:Int)=La was n15.toNat:=by rw[hx21];rfl
     refine qae (by first|omega|(rw[List.length_drop];omega)|(simp<;>omega)) ?_
     refine qac fun n22 hn22=>?_
     have g22:=p4 n7.toNat (by omega)
     dsimp only at g22
     have e22:n22=Gi greens n7.toNat:=hn22
     rw[← e22] at g22
     refine qae (by first|omega|(rw[List.length_drop];omega)|(simp<;>omega)) ?_
     refine qac fun n23 hn23=>?_
     have e23:n23=n22:=by rw[hn23,hn22]
     refine W_wi (by omega) fun n24 hn24=>?_
     refine W_wi (by omega) fun n25 hn25=>?_
     refine qae (by first|omega|(rw[List.length_drop];omega)|(simp<;>omega)) ?_
     refine qac fun z26 hz26=>?_
     have lz26:=congrArg List.length hz26;try simp at lz26
     have g26:=qam (d:=dflt 7) (n:=n7) q9 (by omega)
     rw[← hz26] at g26
     refine qae (by first|omega|(rw[List.length_drop];omega)|(simp<;>omega)) ?_
     refine qac fun n27 hn27=>?_
     have e27:n27=bt s n7.toNat n15.toNat:=by rw[hn27,hz26];rfl
     refine W_if (fun c11=>?_) fun c11=>?_
     ·exfalso
      have mk:=p3 n7.toNat n15.toNat (by omega) (by omega) (by rw[← hb17];exact Classical.not_not.1 c3)
      obtain⟨⟨⟨h1,h2⟩,h3⟩,h4⟩:=c11
      have:=mk.2 (by omega) (by omega) (by omega)
      omega
     ·refine qag (by omega) fun n28 hn28=>?_
      exact ihr8.use _ ⟨_,rfl,by first|omega|(simp<;>omega)⟩ (by dsimp only;omega)
  ·refine qag (by omega) fun n16 hn16=>?_
   exact ihr1.use _ ⟨_,rfl,by first|omega|(simp<;>omega)⟩ (by dsimp only;omega)
 ·refine qaa ?_
  rfl
theorem q4L {s:SiteT}{trace:List (List UInt8)}{Z:Nat→List SeenT}{St:Nat→Int}{Fl:Nat→Bool}(p0:SOk s)(p1:trace.length≤200)(p2:Trc s Z St Fl trace):W (qnm s trace) (fun r=>r=true):=by
 unfold qnm qdE
 obtain⟨⟨q1,q2,q3,q4,q5,q6,q7,q8⟩,q9⟩:=p0.shape
 refine qax (fun((z2,z3,z4,_),((x5,_),_),z6,n7,_)=>(List.replicate (s.groups.length:Int).toNat (UInt8.ofNat 0))=z2∧(List.replicate (s.groups.length:Int).toNat (0:Int))=z3∧(List.replicate (s.groups.length:Int).toNat (0:Int))=z4∧s=x5∧trace=z6∧(s.groups.length:Int)=n7∧(L3 s z2 z3 z4)) (fun J1 hJ1=>?_) ?_
 ·refine W_sm ?_
  refine qn5 (by first|exact bz.1|exact bz.2.1|exact bz.2.2|exact bt.1|exact bt.2.1|exact bt.2.2|(rw[hz61,List.length_set];exact bt.2.1)|omega|(simp<;>omega)) ?_
  refine W_sm ?_
  refine qn5 (by first|exact bz.1|exact bz.2.1|exact bz.2.2|exact bt.1|exact bt.2.1|exact bt.2.2|(rw[hz61,List.length_set];exact bt.2.1)|omega|(simp<;>omega)) ?_
  refine qn5 (by first|exact bz.1|exact bz.2.1|exact bz.2.2|exact bt.1|exact bt.2.1|exact bt.2.2|(rw[hz61,List.length_set];exact bt.2.1)|omega|(simp<;>omega)) ?_
  refine W_rs (by first|rfl|omega|(simp<;>omega)) ?_
  refine W_rs (by first|rfl|omega|(simp<;>omega)) ?_
  refine W_rs (by first|rfl|omega|(simp<;>omega)) ?_
  exact hJ1.use _ (by dsimp only;exact⟨rfl,rfl,rfl,rfl,rfl,rfl,⟨by simp,by simp,by simp⟩⟩)
 ·rintro⟨⟨z2,z3,z4,_⟩,⟨⟨x5,_⟩,_⟩,z6,n7,_⟩ kJ1;dsimp only at kJ1
  obtain⟨rfl,rfl,rfl,rfl,rfl,rfl,kJ1⟩:=kJ1
  refine qab (qt2 p0) ?_
  rintro n8 hn8
  refine W_rs (by first|rfl|omega|(simp<;>omega)) ?_
  refine W_rs (by first|rfl|omega|(simp<;>omega)) ?_
  refine W_rs (by first|rfl|omega|(simp<;>omega)) ?_
  refine qaj (fun v=>∃ z10 z11 z12 n18,v=((z10,z11,z12,()),((s,()),()),trace,(s.groups.length:Int),n8,false,n18,())∧(0≤n18∧n18≤(s.groups.length:Int))∧(L3 s z10 z11 z12)∧(FA (fun k=>La z10 k=1∧Gi z11 k=1∧Gi z12 k = -1) n18)) (fun((z10,z11,z12,_),((_,_),_),_,_,_,_,n18,_)=>((s.groups.length:Int)-n18).toNat) ⟨_,_,_,_,rfl,by omega,kJ1,FA.zero⟩ (by simp only[NN];omega) ?_
  rintro r9 _ ⟨z10,z11,z12,n18,rfl,hr9_0,hr9_1,hr9_2⟩ ihr9
  have l123:=hr9_1;obtain⟨l1,l2,l3⟩:=l123
  refine W_if (fun c10=>?_) fun c10=>?_
  ·refine W_rb (by first|exact bz.1|exact bz.2.1|exact bz.2.2|exact bt.1|exact bt.2.1|exact bt.2.2|(rw[hz61,List.length_set];exact bt.2.1)|omega|(simp<;>omega)) ?_
   refine qae (by first|exact bz.1|exact bz.2.1|exact bz.2.2|exact bt.1|exact bt.2.1|exact bt.2.2|(rw[hz61,List.length_set];exact bt.2.1)|omega|(simp<;>omega)) ?_
   refine qac fun z172 hz172=>?_
   have lz172:=congrArg List.length hz172;try simp at lz172
   refine W_rb (by first|exact bz.1|exact bz.2.1|exact bz.2.2|exact bt.1|exact bt.2.1|exact bt.2.2|(rw[hz61,List.length_set];exact bt.2.1)|omega|(simp<;>omega)) ?_
   refine qae (by first|exact bz.1|exact bz.2.1|exact bz.2.2|exact bt.1|exact bt.2.1|exact bt.2.2|(rw[hz61,List.length_set];exact bt.2.1)|omega|(simp<;>omega)) ?_
   refine qac fun z173 hz173=>?_
   have lz173:=congrArg List.length hz173;try simp at lz173
   refine W_rb (by first|exact bz.1|exact bz.2.1|exact bz.2.2|exact bt.1|exact bt.2.1|exact bt.2.2|(rw[hz61,List.length_set];exact bt.2.1)|omega|(simp<;>omega)) ?_
   refine qae (by first|exact bz.1|exact bz.2.1|exact bz.2.2|exact bt.1|exact bt.2.1|exact bt.2.2|(rw[hz61,List.length_set];exact bt.2.1)|omega|(simp<;>omega)) ?_
   refine qac fun z174 hz174=>?_
   have lz174:=congrArg List.length hz174;try simp at lz174
   have f3:=fill3 hr9_2 (by omega) rfl (by omega) hz172 hz173 hz174
   refine qag (by omega) fun n175 hn175=>?_
   refine W_rs (by first|rfl|omega|(simp<;>omega)) ?_
   refine W_rs (by first|rfl|omega|(simp<;>omega)) ?_
   refine W_rs (by first|rfl|omega|(simp<;>omega)) ?_
   exact ihr9.use _ ⟨_,_,_,_,rfl,by omega,L3.up hr9_1 f3.1,by rw[hn175];exact f3.2⟩ (by dsimp only;omega)
  ·refine W_rs (by first|rfl|omega|(simp<;>omega)) ?_
   refine W_rs (by first|rfl|omega|(simp<;>omega)) ?_
   refine W_rs (by first|rfl|omega|(simp<;>omega)) ?_
   refine qaj (fun v=>∃ z20 z21 z22 n26 b27 n28,v=((z20,z21,z22,()),((s,()),()),trace,(s.groups.length:Int),n26,b27,n28,())∧(0≤n28∧n28≤trace.length)∧(SI s (Z n28.toNat) (St n28.toNat) (Fl n28.toNat) n28 z20 z21 z22 n26 b27)) (fun((z20,z21,z22,_),((_,_),_),_,_,n26,b27,n28,_)=>(trace.length-n28).toNat) ⟨_,_,_,_,_,_,rfl,by omega,by rw[show (0:Int).toNat=0 from rfl,p2.f0];exact si_0 p2.z0 hr9_1 (fun k hk=>hr9_2 k (by omega)) p2.s0 hn8⟩ (by simp only[NN];omega) ?_
   rintro r19 _ ⟨z20,z21,z22,n26,b27,n28,rfl,hr19_0,hr19_1⟩ ihr19
   clear ihr9 hr9_0 hr9_1 hr9_2 c10 l1 l2 l3 q3 q4 q5 q6 q7 q8 q9
   refine W_if (fun c23=>?_) fun c23=>?_
   ·refine W_ix (by omega) fun z29 hz29=>?_
    have nf:=p2.nf n28.toNat (by omega)
    have bh:=p2.bh n28.toNat (by omega)
    have so:=p2.ok n28.toNat (by omega)
    rw[← hz29] at nf bh
    have fp:=flp p0 nf
    have sl:L3 s z20 z21 z22:=hr19_1.ln
    refine W_if (fun c24=>?_) fun c24=>?_
    ·exfalso;have:=nf.1;omega
    ·refine qab ((qdr (by rw[nf.1];omega)).mono fp) ?_
     rintro n30 hn30
     refine W_if (fun c25=>?_) fun c25=>?_
     ·refine qab ((qdr (by rw[nf.1];omega)).mono fp) ?_
      rintro n101 hn101
      refine W_if (fun c26=>?_) fun c26=>?_
      ·exfalso
       have:=hn101.2.2 (hn30.1.1 c25)
       omega
      ·refine qab ((qdr (by rw[nf.1];omega)).mono fp) ?_
       rintro n102 hn102
       have af:=hn30.1.1 c25
       refine W_if (fun c27=>?_) fun c27=>?_
       ·refine qab (qt2 p0) ?_
        rintro n155 hn155
        refine W_rs (by first|rfl|omega|(simp<;>omega)) ?_
        refine W_rs (by first|rfl|omega|(simp<;>omega)) ?_
        refine W_rs (by first|rfl|omega|(simp<;>omega)) ?_
        refine qaj (fun v=>∃ z157 z158 z159 n166,v=((z157,z158,z159,()),((s,()),()),trace,(s.groups.length:Int),n155,true,n28,n166,())∧(0≤n166∧n166≤(s.groups.length:Int))∧(L3 s z157 z158 z159)∧(FA (fun k=>La z157 k=1∧Gi z158 k=1∧Gi z159 k = -1) n166)) (fun((z157,z158,z159,_),((_,_),_),_,_,_,_,_,n166,_)=>((s.groups.length:Int)-n166).toNat) ⟨_,_,_,_,rfl,by omega,sl,FA.zero⟩ (by simp only[NN];omega) ?_
        rintro r156 _ ⟨z157,z158,z159,n166,rfl,hr156_0,hr156_1,hr156_2⟩ ihr156
        have l123:=hr156_1;obtain⟨l1,l2,l3⟩:=l123
        refine W_if (fun c31=>?_) fun c31=>?_
        ·refine W_rb (by first|exact bz.1|exact bz.2.1|exact bz.2.2|exact bt.1|exact bt.2.1|exact bt.2.2|(rw[hz61,List.length_set];exact bt.2.1)|omega|(simp<;>omega)) ?_
         refine qae (by first|exact bz.1|exact bz.2.1|exact bz.2.2|exact bt.1|exact bt.2.1|exact bt.2.2|(rw[hz61,List.length_set];exact bt.2.1)|omega|(simp<;>omega)) ?_
         refine qac fun z168 hz168=>?_
         have lz168:=congrArg List.length hz168;try simp at lz168
         refine W_rb (by first|exact bz.1|exact bz.2.1|exact bz.2.2|exact bt.1|exact bt.2.1|exact bt.2.2|(rw[hz61,List.length_set];exact bt.2.1)|omega|(simp<;>omega)) ?_
         refine qae (by first|exact bz.1|exact bz.2.1|exact bz.2.2|exact bt.1|exact bt.2.1|exact bt.2.2|(rw[hz61,List.length_set];exact bt.2.1)|omega|(simp<;>omega)) ?_
         refine qac fun z169 hz169=>?_
         have lz169:=congrArg List.length hz169;try simp at lz169
         refine W_rb (by first|exact bz.1|exact bz.2.1|exact bz.2.2|exact bt.1|exact bt.2.1|exact bt.2.2|(rw[hz61,List.length_set];exact bt.2.1)|omega|(simp<;>omega)) ?_
         refine qae (by first|exact bz.1|exact bz.2.1|exact bz.2.2|exact bt.1|exact bt.2.1|exact bt.2.2|(rw[hz61,List.length_set];exact bt.2.1)|omega|(simp<;>omega)) ?_
         refine qac fun z170 hz170=>?_
         have lz170:=congrArg List.length hz170;try simp at lz170
         have f3:=fill3 hr156_2 (by omega) rfl (by omega) hz168 hz169 hz170
         refine qag (by omega) fun n171 hn171=>?_
         refine W_rs (by first|rfl|omega|(simp<;>omega)) ?_
         refine W_rs (by first|rfl|omega|(simp<;>omega)) ?_
         refine W_rs (by first|rfl|omega|(simp<;>omega)) ?_
         exact ihr156.use _ ⟨_,_,_,_,rfl,by omega,L3.up hr156_1 f3.1,by rw[hn171];exact f3.2⟩ (by dsimp only;omega)
        ·refine qag (by omega) fun n167 hn167=>?_
         refine W_rs (by first|rfl|omega|(simp<;>omega)) ?_
         refine W_rs (by first|rfl|omega|(simp<;>omega)) ?_
         refine W_rs (by first|rfl|omega|(simp<;>omega)) ?_
         exact ihr19.use _ ⟨_,_,_,_,_,_,rfl,by omega,by rw[hn167,nxN hr19_0.1,bh.2.1.2 af];exact q4I hr156_1 (fun k hk=>hr156_2 k (by omega)) bh af hn155 (by omega)⟩ (by dsimp only;omega)
       ·exfalso
        exact c27 (hn102.2.2 (hn30.1.1 c25))
     ·refine qab ((qdr (by rw[nf.1];omega)).mono fp) ?_
      rintro n31 hn31
      have na:¬ AllF z29:=fun h=>c25 (hn30.1.2 h)
      have sr:=si_red so hr19_1 nf na
      have sd:=sr.2
      refine W_if (fun c44=>?_) fun c44=>?_
      ·exfalso;exact na (hn31.2.1 c44)
      ·refine W_rs (by first|rfl|omega|(simp<;>omega)) ?_
       refine W_rs (by first|rfl|omega|(simp<;>omega)) ?_
       refine W_rs (by first|rfl|omega|(simp<;>omega)) ?_
       refine qaj (fun v=>∃ n43,v=((z20,z21,z22,()),((s,()),()),trace,(s.groups.length:Int),n26,b27,n28,z29,n43,())∧(0≤n43∧n43≤(s.groups.length:Int))) (fun((_,_,_,_),((_,_),_),_,_,_,_,_,_,n43,_)=>((s.groups.length:Int)-n43).toNat) ⟨_,rfl,by first|omega|(simp<;>omega)⟩ (by simp only[NN];omega) ?_
       rintro r32 _ ⟨n43,rfl,hr32_0⟩ ihr32
       have l123:=sl;obtain⟨l1,l2,l3⟩:=l123
       refine W_if (fun c48=>?_) fun c48=>?_
       ·refine qae (by first|exact bz.1|exact bz.2.1|exact bz.2.2|exact bt.1|exact bt.2.1|exact bt.2.2|(rw[hz61,List.length_set];exact bt.2.1)|omega|(simp<;>omega)) ?_
        refine qac fun x77 hx77=>?_
        have e77:(x77.toNat:Int)=La z29 n43.toNat:=by rw[hx77];rfl
        refine qae (by first|exact bz.1|exact bz.2.1|exact bz.2.2|exact bt.1|exact bt.2.1|exact bt.2.2|(rw[hz61,List.length_set];exact bt.2.1)|omega|(simp<;>omega)) ?_
        refine qac fun x78 hx78=>?_
        refine qae (by first|exact bz.1|exact bz.2.1|exact bz.2.2|exact bt.1|exact bt.2.1|exact bt.2.2|(rw[hz61,List.length_set];exact bt.2.1)|omega|(simp<;>omega)) ?_
        refine qae (by first|exact bz.1|exact bz.2.1|exact bz.2.2|exact bt.1|exact bt.2.1|exact bt.2.2|(rw[hz61,List.length_set];exact bt.2.1)|omega|(simp<;>omega)) ?_
        refine qac fun n79 hn79=>?_
        rw[Nat.zero_add] at hn79
        refine qae (by first|exact bz.1|exact bz.2.1|exact bz.2.2|exact bt.1|exact bt.2.1|exact bt.2.2|(rw[hz61,List.length_set];exact bt.2.1)|omega|(simp<;>omega)) ?_
        refine qae (by first|exact bz.1|exact bz.2.1|exact bz.2.2|exact bt.1|exact bt.2.1|exact bt.2.2|(rw[hz61,List.length_set];exact bt.2.1)|omega|(simp<;>omega)) ?_
        refine qac fun n80 hn80=>?_
        rw[Nat.zero_add] at hn80
        refine qae (by first|exact bz.1|exact bz.2.1|exact bz.2.2|exact bt.1|exact bt.2.1|exact bt.2.2|(rw[hz61,List.length_set];exact bt.2.1)|omega|(simp<;>omega)) ?_
        refine qac fun x81 hx81=>?_
        have e81:(x81.toNat:Int)=La z29 n43.toNat:=by rw[hx81];rfl
        refine W_if (fun c56=>?_) fun c56=>?_
        ·exfalso
         obtain⟨h1,h2⟩:=c56
         have:=sr.1 h1 n43.toNat (by omega)
         dsimp only at this
         omega
        ·refine qab (qvO) ?_
         rintro b82 hb82
         have ff:=si_fol hr19_1 nf na n43.toNat (by omega)
         dsimp only at ff
         rw[hx78,hn79,hn80,e81] at hb82
         refine W_if (fun c57=>?_) fun c57=>?_
         ·exact absurd (hb82.2 ff) c57
         ·refine qag (by omega) fun n83 hn83=>?_
          refine W_rs (by first|rfl|omega|(simp<;>omega)) ?_
          refine W_rs (by first|rfl|omega|(simp<;>omega)) ?_
          refine W_rs (by first|rfl|omega|(simp<;>omega)) ?_
          exact ihr32.use _ ⟨_,rfl,by omega⟩ (by dsimp only;omega)
       ·refine qab (q4K p0 (by rw[List.take_length,List.take_length];exact⟨nf.1,sl.1,sl.2.2⟩) (by omega) (by rw[List.take_length,List.take_length];exact meet_ok p0 so hr19_1 nf na) (by rw[List.take_length];exact fun k hk=>(hr19_1.at' k hk).hb.2)) ?_
        rintro b44 hb44
        refine W_if (fun c61=>?_) fun c61=>?_
        ·rw[hb44] at c61;cases c61
        ·refine W_rs (by first|rfl|omega|(simp<;>omega)) ?_
         refine W_rs (by first|rfl|omega|(simp<;>omega)) ?_
         refine W_rs (by first|rfl|(rw[hz72,List.length_set])|(rw[hz65,List.length_set])|(rw[hz75,List.length_set])|(rw[hz68,List.length_set])|(rw[hz61,List.length_set])|(rw[hz70,List.length_set,hz61,List.length_set])) ?_
         refine qaj (fun v=>∃ z46 z47 z48 n55,v=((z46,z47,z48,()),((s,()),()),trace,(s.groups.length:Int),n26,n28,z29,n55,())∧(0≤n55∧n55≤(s.groups.length:Int))∧(Half z29 z20 z21 z22 n28 z46 z47 z48 n55)) (fun((z46,z47,z48,_),((_,_),_),_,_,_,_,_,n55,_)=>((s.groups.length:Int)-n55).toNat) ⟨_,_,_,_,rfl,by omega,half_0 _ _ _ _ _⟩ (by simp only[NN];omega) ?_
         rintro r45 _ ⟨z46,z47,z48,n55,rfl,hr45_0,hr45_1⟩ ihr45
         have l123:=sl;have l456:=hr45_1.len
         have lb:z46.length=s.groups.length∧z47.length=s.groups.length∧z48.length=s.groups.length:=⟨l456.1.trans l123.1,l456.2.1.trans l123.2.1,l456.2.2.trans l123.2.2⟩
         clear ihr32 hr32_0 l1 l2 l3 l123 l456
         refine W_if (fun c65=>?_) fun c65=>?_
         ·have bz:(0≤n55∧n55<z46.length)∧(0≤n55∧n55<z47.length)∧(0≤n55∧n55<z48.length):=by omega
          have bt:0+n55.toNat<z46.length∧0+n55.toNat<z47.length∧0+n55.toNat<z48.length:=by omega
          have b29:0≤n55∧n55<z29.length:=by omega
          refine W_rb (by first|exact bz.1|exact bz.2.1|exact bz.2.2|exact bt.1|exact bt.2.1|exact bt.2.2|(rw[hz61,List.length_set];exact bt.2.1)|omega|(simp<;>omega)) ?_
          refine qae (by first|exact bz.1|exact bz.2.1|exact bz.2.2|exact bt.1|exact bt.2.1|exact bt.2.2|(rw[hz61,List.length_set];exact bt.2.1)|omega|(simp<;>omega)) ?_
          refine qac fun n59 hn59=>?_
          have ho:=hr45_1.old n55.toNat (by omega)
          rw[Nat.zero_add] at hn59
          have e59:n59=Gi z21 n55.toNat:=hn59.trans ho.2.1
          have b59:=(hr19_1.at' n55.toNat (by omega)).hb
          rw[← e59] at b59
          refine qag (by omega) fun n60 hn60=>?_
          refine W_rb (by first|exact bz.1|exact bz.2.1|exact bz.2.2|exact bt.1|exact bt.2.1|exact bt.2.2|(rw[hz61,List.length_set];exact bt.2.1)|omega|(simp<;>omega)) ?_
          refine qae (by first|exact bz.1|exact bz.2.1|exact bz.2.2|exact bt.1|exact bt.2.1|exact bt.2.2|(rw[hz61,List.length_set];exact bt.2.1)|omega|(simp<;>omega)) ?_
          refine qac fun z61 hz61=>?_
          refine W_ix (b29) fun x62 hx62=>?_
          have e62:(x62.toNat:Int)=La z29 n55.toNat:=by rw[hx62];rfl
          refine W_rb (by first|exact bz.1|exact bz.2.1|exact bz.2.2|exact bt.1|exact bt.2.1|exact bt.2.2|(rw[hz61,List.length_set];exact bt.2.1)|omega|(simp<;>omega)) ?_
          refine qae (by first|exact bz.1|exact bz.2.1|exact bz.2.2|exact bt.1|exact bt.2.1|exact bt.2.2|(rw[hz61,List.length_set];exact bt.2.1)|omega|(simp<;>omega)) ?_
          refine qac fun n63 hn63=>?_
          rw[Nat.zero_add] at hn63
          have e63:n63=La z20 n55.toNat:=hn63.trans ho.1
          refine W_if (fun c72=>?_) fun c72=>?_
          ·refine W_rb (by first|exact bz.1|exact bz.2.1|exact bz.2.2|exact bt.1|exact bt.2.1|exact bt.2.2|(rw[hz61,List.length_set];exact bt.2.1)|omega|(simp<;>omega)) ?_
           refine qae (by first|exact bz.1|exact bz.2.1|exact bz.2.2|exact bt.1|exact bt.2.1|exact bt.2.2|(rw[hz61,List.length_set];exact bt.2.1)|omega|(simp<;>omega)) ?_
           refine qac fun z70 hz70=>?_
           refine W_ix (b29) fun x71 hx71=>?_
           have ex71:x71=x62:=by rw[hx71,hx62]
           refine W_rb (by first|exact bz.1|exact bz.2.1|exact bz.2.2|exact bt.1|exact bt.2.1|exact bt.2.2|(rw[hz61,List.length_set];exact bt.2.1)|omega|(simp<;>omega)) ?_
           refine qae (by first|exact bz.1|exact bz.2.1|exact bz.2.2|exact bt.1|exact bt.2.1|exact bt.2.2|(rw[hz61,List.length_set];exact bt.2.1)|omega|(simp<;>omega)) ?_
           refine qac fun z72 hz72=>?_
           refine W_ix (b29) fun x73 hx73=>?_
           have ex73:x73=x62:=by rw[hx73,hx62]
           refine W_if (fun c77=>?_) fun c77=>?_
           ·refine W_rb (by first|exact bz.1|exact bz.2.1|exact bz.2.2|exact bt.1|exact bt.2.1|exact bt.2.2|(rw[hz61,List.length_set];exact bt.2.1)|omega|(simp<;>omega)) ?_
            refine qae (by first|exact bz.1|exact bz.2.1|exact bz.2.2|exact bt.1|exact bt.2.1|exact bt.2.2|(rw[hz61,List.length_set];exact bt.2.1)|omega|(simp<;>omega)) ?_
            refine qac fun z75 hz75=>?_
            refine qag (by omega) fun n76 hn76=>?_
            refine W_rs (by first|rfl|(rw[hz72,List.length_set])|(rw[hz65,List.length_set])|(rw[hz75,List.length_set])|(rw[hz68,List.length_set])|(rw[hz61,List.length_set])|(rw[hz70,List.length_set,hz61,List.length_set])) ?_
            refine W_rs (by first|rfl|(rw[hz72,List.length_set])|(rw[hz65,List.length_set])|(rw[hz75,List.length_set])|(rw[hz68,List.length_set])|(rw[hz61,List.length_set])|(rw[hz70,List.length_set,hz61,List.length_set])) ?_
            refine W_rs (by first|rfl|(rw[hz72,List.length_set])|(rw[hz65,List.length_set])|(rw[hz75,List.length_set])|(rw[hz68,List.length_set])|(rw[hz61,List.length_set])|(rw[hz70,List.length_set,hz61,List.length_set])) ?_
            exact ihr45.use _ ⟨_,_,_,_,rfl,by omega,qjT hr45_1 hr45_0.1 hn76 (Upd.set bz.1 hz72) (by rw[u8_id,ex71,e62]) (Upd.again (Upd.set bz.2.1 hz61) bz.2.1 hz70) (by rw[if_neg (by omega)]) (Upd.set bz.2.2 hz75) (by rw[if_pos (by rw[← e62,← ex73];assumption)])⟩ (by dsimp only;omega)
           ·refine qag (by omega) fun n74 hn74=>?_
            refine W_rs (by first|rfl|(rw[hz72,List.length_set])|(rw[hz65,List.length_set])|(rw[hz75,List.length_set])|(rw[hz68,List.length_set])|(rw[hz61,List.length_set])|(rw[hz70,List.length_set,hz61,List.length_set])) ?_
            refine W_rs (by first|rfl|(rw[hz72,List.length_set])|(rw[hz65,List.length_set])|(rw[hz75,List.length_set])|(rw[hz68,List.length_set])|(rw[hz61,List.length_set])|(rw[hz70,List.length_set,hz61,List.length_set])) ?_
            refine W_rs (by first|rfl|(rw[hz72,List.length_set])|(rw[hz65,List.length_set])|(rw[hz75,List.length_set])|(rw[hz68,List.length_set])|(rw[hz61,List.length_set])|(rw[hz70,List.length_set,hz61,List.length_set])) ?_
            exact ihr45.use _ ⟨_,_,_,_,rfl,by omega,qjT hr45_1 hr45_0.1 hn74 (Upd.set bz.1 hz72) (by rw[u8_id,ex71,e62]) (Upd.again (Upd.set bz.2.1 hz61) bz.2.1 hz70) (by rw[if_neg (by omega)]) Upd.same (by rw[if_neg (by rw[← e62,← ex73];assumption)];exact ho.2.2)⟩ (by dsimp only;omega)
          ·refine W_ix (b29) fun x64 hx64=>?_
           have ex64:x64=x62:=by rw[hx64,hx62]
           refine W_rb (by first|exact bz.1|exact bz.2.1|exact bz.2.2|exact bt.1|exact bt.2.1|exact bt.2.2|(rw[hz61,List.length_set];exact bt.2.1)|omega|(simp<;>omega)) ?_
           refine qae (by first|exact bz.1|exact bz.2.1|exact bz.2.2|exact bt.1|exact bt.2.1|exact bt.2.2|(rw[hz61,List.length_set];exact bt.2.1)|omega|(simp<;>omega)) ?_
           refine qac fun z65 hz65=>?_
           refine W_ix (b29) fun x66 hx66=>?_
           have ex66:x66=x62:=by rw[hx66,hx62]
           refine W_if (fun c88=>?_) fun c88=>?_
           ·refine W_rb (by first|exact bz.1|exact bz.2.1|exact bz.2.2|exact bt.1|exact bt.2.1|exact bt.2.2|(rw[hz61,List.length_set];exact bt.2.1)|omega|(simp<;>omega)) ?_
            refine qae (by first|exact bz.1|exact bz.2.1|exact bz.2.2|exact bt.1|exact bt.2.1|exact bt.2.2|(rw[hz61,List.length_set];exact bt.2.1)|omega|(simp<;>omega)) ?_
            refine qac fun z68 hz68=>?_
            refine qag (by omega) fun n69 hn69=>?_
            refine W_rs (by first|rfl|(rw[hz72,List.length_set])|(rw[hz65,List.length_set])|(rw[hz75,List.length_set])|(rw[hz68,List.length_set])|(rw[hz61,List.length_set])|(rw[hz70,List.length_set,hz61,List.length_set])) ?_
            refine W_rs (by first|rfl|(rw[hz72,List.length_set])|(rw[hz65,List.length_set])|(rw[hz75,List.length_set])|(rw[hz68,List.length_set])|(rw[hz61,List.length_set])|(rw[hz70,List.length_set,hz61,List.length_set])) ?_
            refine W_rs (by first|rfl|(rw[hz72,List.length_set])|(rw[hz65,List.length_set])|(rw[hz75,List.length_set])|(rw[hz68,List.length_set])|(rw[hz61,List.length_set])|(rw[hz70,List.length_set,hz61,List.length_set])) ?_
            exact ihr45.use _ ⟨_,_,_,_,rfl,by omega,qjT hr45_1 hr45_0.1 hn69 (Upd.set bz.1 hz65) (by rw[u8_id,ex64,e62]) (Upd.set bz.2.1 hz61) (by rw[if_pos (by omega),hn60,e59]) (Upd.set bz.2.2 hz68) (by rw[if_pos (by rw[← e62,← ex66];assumption)])⟩ (by dsimp only;omega)
           ·refine qag (by omega) fun n67 hn67=>?_
            refine W_rs (by first|rfl|(rw[hz72,List.length_set])|(rw[hz65,List.length_set])|(rw[hz75,List.length_set])|(rw[hz68,List.length_set])|(rw[hz61,List.length_set])|(rw[hz70,List.length_set,hz61,List.length_set])) ?_
            refine W_rs (by first|rfl|(rw[hz72,List.length_set])|(rw[hz65,List.length_set])|(rw[hz75,List.length_set])|(rw[hz68,List.length_set])|(rw[hz61,List.length_set])|(rw[hz70,List.length_set,hz61,List.length_set])) ?_
            refine W_rs (by first|rfl|(rw[hz72,List.length_set])|(rw[hz65,List.length_set])|(rw[hz75,List.length_set])|(rw[hz68,List.length_set])|(rw[hz61,List.length_set])|(rw[hz70,List.length_set,hz61,List.length_set])) ?_
            exact ihr45.use _ ⟨_,_,_,_,rfl,by omega,qjT hr45_1 hr45_0.1 hn67 (Upd.set bz.1 hz65) (by rw[u8_id,ex64,e62]) (Upd.set bz.2.1 hz61) (by rw[if_pos (by omega),hn60,e59]) Upd.same (by rw[if_neg (by rw[← e62,← ex66];assumption)];exact ho.2.2)⟩ (by dsimp only;omega)
         ·refine W_wi (by omega) fun n56 hn56=>?_
          refine qac fun n57 hn57=>?_
          refine qag (by omega) fun n58 hn58=>?_
          refine W_rs (by first|rfl|(rw[hz72,List.length_set])|(rw[hz65,List.length_set])|(rw[hz75,List.length_set])|(rw[hz68,List.length_set])|(rw[hz61,List.length_set])|(rw[hz70,List.length_set,hz61,List.length_set])) ?_
          refine W_rs (by first|rfl|(rw[hz72,List.length_set])|(rw[hz65,List.length_set])|(rw[hz75,List.length_set])|(rw[hz68,List.length_set])|(rw[hz61,List.length_set])|(rw[hz70,List.length_set,hz61,List.length_set])) ?_
          refine W_rs (by first|rfl|(rw[hz72,List.length_set])|(rw[hz65,List.length_set])|(rw[hz75,List.length_set])|(rw[hz68,List.length_set])|(rw[hz61,List.length_set])|(rw[hz70,List.length_set,hz61,List.length_set])) ?_
          exact ihr19.use _ ⟨_,_,_,_,_,_,rfl,by omega,by rw[hn58,nxN hr19_0.1,hn57,hn56];exact si_next p0 so hr19_1 (by omega) nf na bh (by rw[show (s.groups.length:Int)=n55 by omega];exact hr45_1)⟩ (by dsimp only;omega)
   ·refine qaa ?_
    rfl
end Go.Proofs.YtcdppfnjidlknaaGreatDoor
namespace Go.Proofs.YtcdppfnjidlknaaGreatDoor
open Go Go.Eng Go.Proofs Go.Wp
theorem run_trc {s:SiteT}{x0:LocT}{l:List Inp}(sg:SG s)(nw:LNew s x0)(fin:∀ i∈l,InOk i):Trc s (fun k=>(XS s x0 l k).seen) (fun k=>(XS s x0 l k).start) (fun k=>(XS s x0 l k).flashed) ((List.range l.length).map (LS s x0 l)):=by
  refine⟨nw.seen,nw.start,nw.fl,fun k hk=>?_,fun k hk=>?_,fun k hk=>?_⟩
  · rw[ql2] at hk;exact(xs_ok sg nw.ok fin k hk).now
  · rw[ql2] at hk;rw[qzc hk];exact(xs_ran sg nw.ok fin hk).nf
  · rw[ql2] at hk;rw[qzc hk];exact(xs_ran sg nw.ok fin hk).now
theorem run_of {s:SiteT}{d:List UInt8}{l:List Inp}{z3:List (List UInt8)}{z4:List UInt8}{n5:Int}(h:(∃ n x0,n≠0∧qcx s d=some (n,x0)∧(z3,z4,n5)=([],[],n))∨Run s d l (z3,z4,n5))(c:¬ n5≠0):Run s d l (z3,z4,n5):=by
  rcases h with ⟨n,y0,h1,h2,h3⟩|rn
  · simp only[Prod.mk.injEq] at h3;exact absurd (by rw[h3.2.2];exact h1) c
  · exact rn
theorem safe_snd {s:SiteT}{d:List UInt8}{l:List Inp}{z3:List (List UInt8)}{z4:List UInt8}{n5:Int}(rn:Run s d l (z3,z4,n5))(fin:∀ i∈l,InOk i)(hl:l.length≤200):W (qnm s z3) (fun r=>r=true):=by
  obtain⟨x0,e0,nw,e1⟩:=rn.new
  simp only[Prod.mk.injEq] at e1
  have:=q4L rn.sg.ok (by rw[ql2];exact hl) (run_trc rn.sg nw fin)
  rw[← e1.1] at this;exact this
theorem qzd {s:SiteT}{d:List UInt8}{l:List Inp}(p0:SWf s)(p1:∀ i∈l,InT i):W (ql0 s d l) (fun r=>r=true):=by
 unfold ql0 qig
 refine qbx (alive_ok) ?_
 refine W_if (fun c1=>?_) fun c1=>?_
 ·exact absurd rfl c1
 ·refine qab (q7m p1) ?_
  rintro b2 hb2
  refine W_if (fun c2=>?_) fun c2=>?_
  ·refine qaa ?_
   rfl
  ·have ft:=hb2 (Classical.not_not.1 c2)
   have l200:=ft.2.2.1
   refine qab (q4H ft.1 p0 (by have:=ft.2.1;omega) (by have:=ft.2.2.1;omega) (fit_in ft p1)) ?_
   rintro⟨z3,z4,n5⟩ hz3
   try dsimp only at hz3
   refine W_if (fun c3=>?_) fun c3=>?_
   ·refine qaa ?_
    rcases hz3 with ⟨n,y0,h1,h2,h3⟩|rn
    · simp only[Prod.mk.injEq] at h3;rw[h3.1,h3.2.1];rfl
    · obtain⟨x0,e0,nw,e1⟩:=rn.new
      simp only[Prod.mk.injEq] at e1
      exact absurd e1.2.2 c3
   ·refine W_if (fun c4=>?_) fun c4=>?_
    ·have rn:=run_of hz3 c3
     refine qab (safe_snd rn (fit_in ft p1) l200) ?_
     rintro b6 hb6
     refine qaa ?_
     exact hb6
    ·exfalso
     rcases hz3 with ⟨n,y0,h1,h2,h3⟩|rn
     · simp only[Prod.mk.injEq] at h3;exact c3 (by rw[h3.2.2];exact h1)
     · obtain⟨x0,e0,nw,e1⟩:=rn.new
       simp only[Prod.mk.injEq] at e1
       refine c4 ⟨⟨rfl,?_⟩,?_⟩
       · rw[e1.1,ql2]
       · rw[e1.2.1,ql2]
end Go.Proofs.YtcdppfnjidlknaaGreatDoor
