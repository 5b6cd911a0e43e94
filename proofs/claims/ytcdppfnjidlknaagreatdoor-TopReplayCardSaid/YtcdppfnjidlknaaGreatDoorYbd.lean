import Derived.Test.YtcdppfnjidlknaaGreatDoorYbc
set_option linter.unusedVariables false
set_option linter.unusedSimpArgs false
namespace Go.Proofs.YtcdppfnjidlknaaGreatDoor
open Go Go.Eng Go.Proofs Go.Wp
def La (l:List UInt8)(i:Nat):Int:=((l.getD i 0).toNat:Int)
def As (z:List SeenT)(i:Nat):Int:=(z.getD i (dflt 20)).aspectf
def En (z:List SeenT)(i:Nat):Int:=(z.getD i (dflt 20)).endedf
def kep (n:Int):Int:=min (max n 0) 1048576
def mor (n:Int):Int:=kep (kep n+1)
def nx (s:SeenT)(a:Int):SeenT:=⟨a,if a=s.aspectf then mor s.sincef else 1,if a=2 then 0 else mor s.endedf⟩
def IsG (s:SiteT)(r:Int):Prop:=(0≤r∧r≤1048576)∧FA (fun a=>FA (fun b=>bt s a b≤r) s.groups.length) s.groups.length∧(r=0∨∃ a b:Nat,a<s.groups.length∧b<s.groups.length∧bt s a b=r)
def AllF (l:List UInt8):Prop:=FA (fun i=>La l i=4) l.length
def AllR (l:List UInt8):Prop:=FA (fun i=>La l i=1) l.length
def NoF (l:List UInt8):Prop:=FA (fun i=>La l i≠4) l.length
def NoMeet (s:SiteT)(l:List UInt8):Prop:=FA (fun a=>La l a≠1→FA (fun b=>La l b≠1→ap s a b=false) a) l.length
def q8m (s:SiteT)(z:List SeenT)(l:List UInt8):Prop:=FA (fun i=>La l i=2→As z i≠2→FA (fun k=>ap s k i=true→bt s k i≤En z k) z.length) z.length
def qbg (g:Grp)(s:SeenT)(a:Int):Prop:=(1≤s.aspectf∧s.aspectf≤3)∧(1≤a∧a≤3)∧(a=s.aspectf∨(s.aspectf=1∧a=2)∨(s.aspectf=2∧a=3)∨s.aspectf=3∧a=1)∧(s.aspectf=2→a=3→g.minf≤kep s.sincef)∧(s.aspectf=3→(a=3↔kep s.sincef<g.yellowf))
def qb4 (s:SiteT)(z:List SeenT)(st:Int)(fl:Bool):Prop:=z.length=s.groups.length∧(0≤st∧st≤1048576)∧(fl=true→FA (fun i=>As z i=4) s.groups.length)∧(fl=false→FA (fun i=>1≤As z i∧As z i≤3) s.groups.length∧(0<st→FA (fun i=>As z i=1) s.groups.length)∧FA (fun a=>FA (fun b=>ap s a b=true→As z a=1∨As z b=1) s.groups.length) s.groups.length)
theorem qb4.mem {s:SiteT}{z:List SeenT}{st:Int}{fl:Bool}(h:qb4 s z st fl):∀ g∈z,0≤g.aspectf∧g.aspectf<256:=by
  intro g hg
  obtain⟨k,hk,e⟩:=List.getElem_of_mem hg
  have e2:As z k=g.aspectf:=by unfold As;rw[qbK hk,e]
  cases fl
  · have:=(h.2.2.2 rfl).1 k (by have:=h.1;omega);omega
  · have:=h.2.2.1 rfl k (by have:=h.1;omega);omega
def qdG (s:SiteT)(z:List SeenT)(st:Int)(fl:Bool)(l:List UInt8):Prop:=l.length=s.groups.length∧(AllF l∨NoF l∧((fl=true∨0<st)→AllR l)∧(fl=false→FA (fun i=>qbg (s.groups.getD i (dflt 17)) (z.getD i (dflt 20)) (La l i)) s.groups.length)∧NoMeet s l∧q8m s z l)
structure SG (s:SiteT):Prop where
  ok:SOk s
  ck:qa4 s=some 0
def qul (s:SiteT)(z:List SeenT)(st:Int)(fl:Bool)(l:List UInt8)(z':List SeenT)(st':Int)(fl':Bool):Prop:=(z'.length=s.groups.length∧FA (fun i=>z'.getD i (dflt 20)=nx (z.getD i (dflt 20)) (La l i)) s.groups.length)∧(fl'=true↔AllF l)∧∃ G,IsG s G∧st'=if fl'=true then G else if fl=true then max 0 (G-1) else max 0 (st-1)
theorem set_nx {s:SiteT}{z z' w:List SeenT}{l:List UInt8}{n m:Int}{x:SeenT}(h:FA (fun i=>z.getD i (dflt 20)=nx (w.getD i (dflt 20)) (La l i)) n)(h2:∀ k:Nat,n≤(k:Int)→z.getD k (dflt 20)=w.getD k (dflt 20))(g:0≤n∧n<z.length)(e:m=n+1)(ez:z'=z.set (0+n.toNat) x)(ex:x=nx (z.getD (0+n.toNat) (dflt 20)) (La l n.toNat)):FA (fun i=>z'.getD i (dflt 20)=nx (w.getD i (dflt 20)) (La l i)) m∧∀ k:Nat,m≤(k:Int)→z'.getD k (dflt 20)=w.getD k (dflt 20):=by
  subst ez
  have q:∀ k:Nat,(k:Int)≠n→(z.set (0+n.toNat) x).getD k (dflt 20)=z.getD k (dflt 20):=by
    intro k hk
    rw[List.getD_eq_getElem?_getD,List.getElem?_set_ne (by omega),← List.getD_eq_getElem?_getD]
  refine⟨fun k hk=>?_,fun k hk=>by rw[q k (by omega)];exact h2 k (by omega)⟩
  dsimp only
  by_cases c:(k:Int)=n
  · subst c
    rw[show 0+((k:Int).toNat)=k by omega] at ex ⊢
    rw[List.getD_eq_getElem?_getD,List.getElem?_set_self (by omega),Option.getD_some,ex,h2 k (by omega)];rfl
  · rw[q k c];exact h k (by omega)
theorem ap_bit {x:Int}{b:Int}(hx:0≤x∧x<4294967296)(hb':0≤b∧b<32):(bits .and .u32 (x.fdiv ((2:Int) ^ min b.toNat IntKind.u32.bits)) 1==1)=hb x b:=by
  obtain⟨n,rfl⟩:=Int.eq_ofNat_of_zero_le hx.1
  have e1:min b.toNat IntKind.u32.bits=b.toNat:=by simp[IntKind.bits];omega
  have e:((2:Int) ^ b.toNat)=((2 ^ b.toNat:Nat):Int):=by simp
  rw[e1,e,Int.fdiv_eq_ediv_of_nonneg _ (Int.natCast_nonneg _),← Int.natCast_ediv]
  have h2:n / 2 ^ b.toNat<4294967296:=Nat.lt_of_le_of_lt (Nat.div_le_self _ _) (by omega)
  have h3:=Go.Wp.u32_and h2 (show 1<4294967296 by omega)
  rw[show ((1:Int))=((1:Nat):Int) from rfl,h3,Nat.and_one_is_mod]
  unfold hb
  rw[Int.toNat_natCast,Nat.testBit_eq_decide_div_mod_eq]
  rcases Nat.mod_two_eq_zero_or_one (n / 2 ^ b.toNat) with h|h<;>rw[h]<;>rfl
end Go.Proofs.YtcdppfnjidlknaaGreatDoor
namespace Go.Wp
theorem FA.all {P:Nat→Prop}{n:Int}(h:FA P n){k:Int}(g:0≤k∧k<n):P k.toNat:=h _ (by omega)
theorem FA.bad {P:Nat→Prop}{n k:Int}(g:0≤k∧k<n)(h:¬ P k.toNat):¬ FA P n:=fun a=>h (a.all g)
end Go.Wp
namespace Go.Proofs.YtcdppfnjidlknaaGreatDoor
open Go Go.Eng Go.Proofs Go.Wp
theorem mx_ex {s:SiteT}{x y:Int}{a b:Nat}(h:x=0∨∃ a b:Nat,a<s.groups.length∧b<s.groups.length∧bt s a b=x)(ha:a<s.groups.length)(hb:b<s.groups.length)(e:y=bt s a b):max x y=0∨∃ a b:Nat,a<s.groups.length∧b<s.groups.length∧bt s a b=max x y:=by
  rcases Int.le_total y x with g|g
  · rw[Int.max_eq_left g];exact h
  · rw[Int.max_eq_right g];exact .inr ⟨a,b,ha,hb,e.symm⟩
theorem set_all {z z':List UInt8}{w:List SeenT}{a n m:Int}(h:FA (fun i=>La z i=As w i) n)(g:0≤n∧n<z.length)(e:m=n+1)(ez:z'=z.set (0+n.toNat) (UInt8.ofNat a.toNat))(ea:a=As w n.toNat)(b:0≤a∧a<256):FA (fun i=>La z' i=As w i) m:=by
  subst ez;subst ea
  intro k hk
  unfold La
  by_cases c:(k:Int)=n
  · subst c
    rw[show 0+((k:Int).toNat)=k by omega,List.getD_eq_getElem?_getD,List.getElem?_set_self (by omega)]
    simp only[Option.getD_some]
    rw[UInt8.toNat_ofNat']
    simp only[Int.toNat_natCast] at b ⊢
    omega
  · have:=h k (by omega)
    unfold La at this
    rw[List.getD_eq_getElem?_getD,List.getElem?_set_ne (by omega),← List.getD_eq_getElem?_getD];exact this
theorem qi9 {s:SiteT}{a:Int}{b:Int}(p0:SOk s)(p1:(0≤a∧a<s.groups.length)∧0≤b∧b<s.groups.length):W (qfD s a b) (fun r=>r=ap s a.toNat b.toNat):=by
 unfold qfD qkK
 obtain⟨⟨q1,q2,q3,q4,q5,q6,q7,q8⟩,q9⟩:=p0.shape
 refine W_ix (by omega) fun x1 hx1=>?_
 refine qaf (by omega) ?_
 refine qac fun n2 hn2=>?_
 refine qac fun n3 hn3=>?_
 refine qaa ?_
 rw[hn3,hn2,hx1,ap_bit (qdd _) (by omega)];unfold ap;rw[Int.toNat_of_nonneg (by omega)]
theorem qkw {s:SiteT}{a:Int}{b:Int}(p0:SOk s)(p1:(0≤a∧a<s.groups.length)∧0≤b∧b<s.groups.length):W (qes s a b) (fun r=>r=bt s a.toNat b.toNat):=by
 unfold qes qfE
 obtain⟨⟨q1,q2,q3,q4,q5,q6,q7,q8⟩,q9⟩:=p0.shape
 refine W_ix (by omega) fun z1 hz1=>?_
 have g1:=qaq (d:=dflt 7) (n:=a) q9 (by omega)
 rw[← hz1] at g1
 refine W_ix (by omega) fun n2 hn2=>?_
 refine qaa ?_
 rw[hn2,hz1];rfl
theorem qca {s:SiteT}(p0:SOk s):W (qcj s) (fun r=>IsG s r):=by
 unfold qcj qeA
 obtain⟨⟨q1,q2,q3,q4,q5,q6,q7,q8⟩,q9⟩:=p0.shape
 refine qaj (fun v=>∃ n3 n5,v=((),((s,()),()),n3,(s.groups.length:Int),n5,())∧(0≤n5∧n5≤(s.groups.length:Int))∧(0≤n3∧n3≤1048576)∧(FA (fun a=>FA (fun b=>bt s a b≤n3) s.groups.length) n5)∧(n3=0∨∃ a b:Nat,a<s.groups.length∧b<s.groups.length∧bt s a b=n3)) (fun(_,((_,_),_),n3,_,n5,_)=>((s.groups.length:Int)-n5).toNat) ⟨_,_,rfl,by omega,by omega,FA.zero,.inl rfl⟩ (by simp only[NN];omega) ?_
 rintro r1 _ ⟨n3,n5,rfl,hr1_0,hr1_1,hr1_2,hr1_3⟩ ihr1
 refine W_if (fun c1=>?_) fun c1=>?_
 ·refine qaj (fun v=>∃ n8 n13,v=((),((s,()),()),n8,n5,(s.groups.length:Int),n5,(s.groups.length:Int),n13,())∧(0≤n13∧n13≤(s.groups.length:Int))∧(0≤n8∧n8≤1048576)∧(FA (fun a=>FA (fun b=>bt s a b≤n8) s.groups.length) n5)∧(n8=0∨∃ a b:Nat,a<s.groups.length∧b<s.groups.length∧bt s a b=n8)∧(FA (fun b=>bt s n5.toNat b≤n8) n13)) (fun(_,((_,_),_),n8,_,_,_,_,n13,_)=>((s.groups.length:Int)-n13).toNat) ⟨_,_,rfl,by omega,hr1_1,hr1_2,hr1_3,FA.zero⟩ (by simp only[NN];omega) ?_
  rintro r6 _ ⟨n8,n13,rfl,hr6_0,hr6_1,hr6_2,hr6_3,hr6_4⟩ ihr6
  refine W_if (fun c2=>?_) fun c2=>?_
  ·refine qab (qi9 (by omega) (by omega)) ?_
   rintro b15 hb15
   have pk:=(p0.apart.2.all (k:=n5) (by omega)).all (k:=n13) (by omega)
   refine W_if (fun c3=>?_) fun c3=>?_
   ·refine qab (qkw (by omega) (by omega)) ?_
    rintro n17 hn17
    refine qac fun n18 hn18=>?_
    refine qah (by omega) fun n19 hn19=>?_
    exact ihr6.use _ ⟨_,_,rfl,by omega,by have:=(pk.2.1 (hb15.symm.trans c3)).2.2;omega,fun a h b hb=>Int.le_trans (hr6_2 a h b hb) (by omega),by rw[hn18];exact mx_ex hr6_3 (by omega) (by omega) hn17,FA.succ (fun b h=>Int.le_trans (hr6_4 b h) (by omega)) (by omega) hn19 (by omega)⟩ (by dsimp only;omega)
   ·refine qah (by omega) fun n16 hn16=>?_
    exact ihr6.use _ ⟨_,_,rfl,by omega,by omega,hr6_2,hr6_3,FA.succ hr6_4 (by omega) hn16 (by have:=pk.2.2 (by rw[← hb15];simpa using c3);omega)⟩ (by dsimp only;omega)
  ·refine qah (by omega) fun n14 hn14=>?_
   exact ihr1.use _ ⟨_,_,rfl,by omega,hr6_1,FA.succ hr6_2 (by omega) hn14 (fun b h=>hr6_4 b (by omega)),hr6_3⟩ (by dsimp only;omega)
 ·refine qaa ?_
  exact⟨hr1_1,fun a h=>hr1_2 a (by omega),hr1_3⟩
theorem qzS {s:SiteT}(p0:SOk s):W (qlz s) (fun r=>IsG s r.2.1∧r.1=List.replicate s.groups.length ⟨1,1,1048576⟩∧r.2.2=false):=by
 unfold qlz qiv
 obtain⟨⟨q1,q2,q3,q4,q5,q6,q7,q8⟩,q9⟩:=p0.shape
 refine qab (qca (by omega)) ?_
 rintro n1 hn1
 refine qaj (fun v=>∃ z3 n10,v=((z3,()),((n1,false,()),(qft,(0:Int),false,()),()),(s.groups.length:Int),n10,())∧(0≤n10∧n10≤(s.groups.length:Int))∧(z3=List.replicate n10.toNat ⟨1,1,1048576⟩)) (fun((z3,_),((_,_,_),(_,_,_,_),_),_,n10,_)=>((s.groups.length:Int)-n10).toNat) ⟨_,_,rfl,by omega,rfl⟩ (by simp only[NN];omega) ?_
 rintro r2 _ ⟨z3,n10,rfl,hr2_0,hr2_1⟩ ihr2
 have l3:=congrArg List.length hr2_1;rw[List.length_replicate] at l3
 refine W_if (fun c1=>?_) fun c1=>?_
 ·refine W_rm (by omega) ?_
  refine qac fun z11 hz11=>?_
  have lz11:=congrArg List.length hz11;try simp at lz11
  have l3:=congrArg List.length hr2_1;rw[List.length_replicate] at l3
  refine qah (by omega) fun n12 hn12=>?_
  refine W_rs (by omega) ?_
  exact ihr2.use _ ⟨_,_,rfl,by omega,by rw[hz11,hr2_1,List.take_length,show n12.toNat=n10.toNat+1 by omega,List.replicate_succ']⟩ (by dsimp only;omega)
 ·refine qaa ?_
  exact⟨hn1,by dsimp only;rw[List.take_length,hr2_1,show n10.toNat=s.groups.length by omega],rfl⟩
theorem qra {a:Int}:W (qpb a) (fun r=>r=(a==1)):=by
 unfold qpb qvs
 refine qaa ?_
 rfl
theorem qh3 {n:Int}:W (qgz n) (fun r=>r=kep n):=by
 unfold qgz qpd
 refine qac fun n1 hn1=>?_
 refine qac fun n2 hn2=>?_
 refine qaa ?_
 rw[hn2,hn1];rfl
theorem qum {a:Int}:W (qnr a) (fun r=>r=true↔1≤a∧a≤3):=by
 unfold qnr qpe
 refine qaa ?_
 by_cases h:a≥1<;>simp[h]<;>omega
theorem qw7 {a:Int}{b:Int}:W (qie a b) (fun r=>r=true↔(a=1∧b=2)∨(a=2∧b=3)∨a=3∧b=1):=by
 unfold qie qfH
 refine qaa ?_
 by_cases h:a=1<;>by_cases g:b=2<;>by_cases h2:a=2<;>by_cases h3:b=3<;>by_cases h4:a=3<;>by_cases h5:b=1<;>simp[*]<;>omega
theorem qzT {g:Grp}{s:SeenT}{aspect:Int}:W (qvH g s aspect) (fun r=>r=0↔qbg g s aspect):=by
 unfold qvH qvG
 refine qab (qh3) ?_
 rintro n1 hn1
 refine qab (qum) ?_
 rintro b2 hb2
 refine W_if (fun c1=>?_) fun c1=>?_
 ·refine W_if (fun c2=>?_) fun c2=>?_
  ·refine qaa ?_
   unfold qbg;(try simp_all)<;>omega
  ·refine W_if (fun c3=>?_) fun c3=>?_
   ·refine qaa ?_
    unfold qbg;(try simp_all)<;>omega
   ·refine W_if (fun c4=>?_) fun c4=>?_
    ·refine qaa ?_
     unfold qbg;(try simp_all)<;>omega
    ·refine qaa ?_
     unfold qbg;(try simp_all)<;>omega
 ·refine qab (qum) ?_
  rintro b3 hb3
  refine W_if (fun c5=>?_) fun c5=>?_
  ·refine W_if (fun c6=>?_) fun c6=>?_
   ·refine qaa ?_
    unfold qbg;(try simp_all)<;>omega
   ·refine W_if (fun c7=>?_) fun c7=>?_
    ·refine qaa ?_
     unfold qbg;(try simp_all)<;>omega
    ·refine W_if (fun c8=>?_) fun c8=>?_
     ·refine qaa ?_
      unfold qbg;(try simp_all)<;>omega
     ·refine qaa ?_
      unfold qbg;(try simp_all)<;>omega
  ·refine W_if (fun c9=>?_) fun c9=>?_
   ·refine qab (qw7) ?_
    rintro b4 hb4
    refine W_if (fun c10=>?_) fun c10=>?_
    ·refine qaa ?_
     unfold qbg;(try simp_all)<;>omega
    ·refine W_if (fun c11=>?_) fun c11=>?_
     ·refine qaa ?_
      unfold qbg;(try simp_all)<;>omega
     ·refine W_if (fun c12=>?_) fun c12=>?_
      ·refine qaa ?_
       unfold qbg;(try simp_all)<;>omega
      ·refine qaa ?_
       unfold qbg;(try simp_all)<;>omega
   ·refine W_if (fun c13=>?_) fun c13=>?_
    ·refine qaa ?_
     unfold qbg;(try simp_all)<;>omega
    ·refine W_if (fun c14=>?_) fun c14=>?_
     ·refine qaa ?_
      unfold qbg;(try simp_all)<;>omega
     ·refine qaa ?_
      unfold qbg;(try simp_all)<;>omega
theorem qun {n:Int}:W (qn2 n) (fun r=>r=mor n):=by
 unfold qn2 qpJ
 refine qab (qh3) ?_
 rintro n1 hn1
 refine qah (by (rw[hn1];unfold kep;omega)) fun n2 hn2=>?_
 refine qab (qh3) ?_
 rintro n3 hn3
 refine qaa ?_
 rw[hn3,hn2,hn1];rfl
theorem q5E {u:Grp}{s:SeenT}{aspect:Int}:W (qwb u s aspect) (fun r=>r=nx s aspect):=by
 unfold qwb qql
 refine qab (qun) ?_
 rintro n1 hn1
 refine W_if (fun c1=>?_) fun c1=>?_
 ·refine qab (qun) ?_
  rintro n2 hn2
  refine W_if (fun c2=>?_) fun c2=>?_
  ·refine qaa ?_
   unfold nx;simp_all
  ·refine qaa ?_
   unfold nx;simp_all
 ·refine W_if (fun c3=>?_) fun c3=>?_
  ·refine qaa ?_
   unfold nx;simp_all
  ·refine qaa ?_
   unfold nx;simp_all
theorem q2q {now:List SeenT}{now2:Int}{now3:Bool}(p0:now.length≤1000)(p1:∀ g∈now,0≤g.aspectf∧g.aspectf<256):W (qpa now now2 now3) (fun r=>r.length=now.length∧FA (fun i=>La r i=As now i) now.length):=by
 unfold qpa qkQ
 refine qwK (by omega) ?_
 refine W_rs (by simp) ?_
 refine qaj (fun v=>∃ z2 n5,v=((z2,()),(),now,(now.length:Int),n5,())∧(0≤n5∧n5≤(now.length:Int))∧(z2.length=now.length)∧(FA (fun i=>La z2 i=As now i) n5)) (fun((z2,_),_,_,_,n5,_)=>((now.length:Int)-n5).toNat) ⟨_,_,rfl,by omega,by simp,FA.zero⟩ (by simp only[NN];omega) ?_
 rintro r1 _ ⟨z2,n5,rfl,hr1_0,hr1_1,hr1_2⟩ ihr1
 refine W_if (fun c3=>?_) fun c3=>?_
 ·refine W_ix (by omega) fun x6 hx6=>?_
  have g6:=qaq (d:=dflt 20) (n:=n5) p1 (by omega)
  rw[← hx6] at g6
  refine W_rb (by omega) ?_
  refine qaf (by omega) ?_
  refine qac fun z7 hz7=>?_
  have lz7:=congrArg List.length hz7;try simp at lz7
  refine qah (by omega) fun n8 hn8=>?_
  refine W_rs (by omega) ?_
  exact ihr1.use _ ⟨_,_,rfl,by omega,by omega,set_all hr1_2 (by omega) hn8 hz7 (by rw[hx6];rfl) g6⟩ (by dsimp only;omega)
 ·refine W_rs rfl ?_
  refine qaa ?_
  exact⟨hr1_1,fun i h=>hr1_2 i (by omega)⟩
theorem qlR {s:SiteT}{l:List UInt8}(p0:SOk s)(p1:l.length≤s.groups.length):W (qj6 s l) (fun r=>r=false↔NoMeet s l):=by
 unfold qj6 qpH
 obtain⟨⟨q1,q2,q3,q4,q5,q6,q7,q8⟩,q9⟩:=p0.shape
 refine qaj (fun v=>∃ n5,v=((),((s,()),()),l,(l.length:Int),n5,())∧(0≤n5∧n5≤(l.length:Int))∧(FA (fun a=>La l a≠1→FA (fun b=>La l b≠1→ap s a b=false) a) n5)) (fun(_,((_,_),_),_,_,n5,_)=>((l.length:Int)-n5).toNat) ⟨_,rfl,by omega,FA.zero⟩ (by simp only[NN];omega) ?_
 rintro r1 _ ⟨n5,rfl,hr1_0,hr1_1⟩ ihr1
 refine W_if (fun c1=>?_) fun c1=>?_
 ·refine W_ix (by omega) fun x6 hx6=>?_
  refine qab (qra) ?_
  rintro b7 hb7
  have f7:b7=true↔La l n5.toNat=1:=by rw[hb7,hx6,beq_iff_eq];rfl
  refine W_if (fun c2=>?_) fun c2=>?_
  ·refine qah (by omega) fun n22 hn22=>?_
   exact ihr1.use _ ⟨_,rfl,by omega,FA.succ hr1_1 (by omega) hn22 (fun h=>absurd (f7.1 c2) h)⟩ (by dsimp only;omega)
  ·refine qaj (fun v=>∃ n15,v=((),((s,()),()),l,n5,(l.length:Int),n5,n5,n15,())∧(0≤n15∧n15≤n5)∧(FA (fun b=>La l b≠1→ap s n5.toNat b=false) n15)) (fun(_,((_,_),_),_,_,_,_,_,n15,_)=>(n5-n15).toNat) ⟨_,rfl,by omega,FA.zero⟩ (by simp only[NN];omega) ?_
   rintro r8 _ ⟨n15,rfl,hr8_0,hr8_1⟩ ihr8
   refine W_if (fun c3=>?_) fun c3=>?_
   ·refine W_ix (by omega) fun x17 hx17=>?_
    refine qab (qra) ?_
    rintro b18 hb18
    have f18:b18=true↔La l n15.toNat=1:=by rw[hb18,hx17,beq_iff_eq];rfl
    refine W_if (fun c4=>?_) fun c4=>?_
    ·refine qab (qi9 (by omega) (by omega)) ?_
     rintro b20 hb20
     refine W_if (fun c5=>?_) fun c5=>?_
     ·refine qaa ?_
      refine⟨fun h=>by simp at h,fun h=>?_⟩
      have g:=(h.all (k:=n5) (by omega)) (fun e=>c2 (f7.2 e))
      have g2:=g n15.toNat (by omega) (fun e=>by rw[f18.2 e] at c4;simp at c4)
      rw[← hb20,c5] at g2;simp at g2
     ·refine qah (by omega) fun n21 hn21=>?_
      exact ihr8.use _ ⟨_,rfl,by omega,FA.succ hr8_1 (by omega) hn21 (fun _=>by rw[← hb20];simpa using c5)⟩ (by dsimp only;omega)
    ·refine qah (by omega) fun n19 hn19=>?_
     exact ihr8.use _ ⟨_,rfl,by omega,FA.succ hr8_1 (by omega) hn19 (fun h=>absurd (f18.1 (by simpa using c4)) h)⟩ (by dsimp only;omega)
   ·refine qah (by omega) fun n16 hn16=>?_
    exact ihr1.use _ ⟨_,rfl,by omega,FA.succ hr1_1 (by omega) hn16 (fun _ b h=>hr8_1 b (by omega))⟩ (by dsimp only;omega)
 ·refine qaa ?_
  refine⟨fun _ a h=>hr1_1 a (by omega),fun _=>rfl⟩
theorem qrb {s:SiteT}{now:List SeenT}{now2:Int}{now3:Bool}{l:List UInt8}(p0:SOk s)(p1:now.length=s.groups.length∧l.length=s.groups.length):W (qj8 s now now2 now3 l) (fun r=>r=false↔q8m s now l):=by
 unfold qj8 qlp
 obtain⟨⟨q1,q2,q3,q4,q5,q6,q7,q8⟩,q9⟩:=p0.shape
 refine qaj (fun v=>∃ n9,v=((),((s,()),(now,now2,now3,()),()),l,now,(now.length:Int),n9,())∧(0≤n9∧n9≤(now.length:Int))∧(FA (fun i=>La l i=2→As now i≠2→FA (fun k=>ap s k i=true→bt s k i≤En now k) now.length) n9)) (fun(_,((_,_),(_,_,_,_),_),_,_,_,n9,_)=>((now.length:Int)-n9).toNat) ⟨_,rfl,by omega,FA.zero⟩ (by simp only[NN];omega) ?_
 rintro r1 _ ⟨n9,rfl,hr1_0,hr1_1⟩ ihr1
 refine W_if (fun c1=>?_) fun c1=>?_
 ·refine W_ix (by omega) fun x10 hx10=>?_
  refine W_ix (by omega) fun x11 hx11=>?_
  have f11:(x11.toNat:Int)=La l n9.toNat:=by rw[hx11];rfl
  have f10:x10.aspectf=As now n9.toNat:=by rw[hx10];rfl
  refine W_if (fun c2=>?_) fun c2=>?_
  ·refine qah (by omega) fun n31 hn31=>?_
   exact ihr1.use _ ⟨_,rfl,by omega,FA.succ hr1_1 (by omega) hn31 (fun h g=>by omega)⟩ (by dsimp only;omega)
  ·refine qaj (fun v=>∃ n24,v=((),((s,()),(now,now2,now3,()),()),l,n9,now,(now.length:Int),n9,now,(now.length:Int),n24,())∧(0≤n24∧n24≤(now.length:Int))∧(FA (fun k=>ap s k n9.toNat=true→bt s k n9.toNat≤En now k) n24)) (fun(_,((_,_),(_,_,_,_),_),_,_,_,_,_,_,_,n24,_)=>((now.length:Int)-n24).toNat) ⟨_,rfl,by omega,FA.zero⟩ (by simp only[NN];omega) ?_
   rintro r12 _ ⟨n24,rfl,hr12_0,hr12_1⟩ ihr12
   refine W_if (fun c3=>?_) fun c3=>?_
   ·refine W_ix (by omega) fun x26 hx26=>?_
    have f26:x26.endedf=En now n24.toNat:=by rw[hx26];rfl
    refine qab (qi9 (by omega) (by omega)) ?_
    rintro b27 hb27
    refine W_if (fun c4=>?_) fun c4=>?_
    ·refine qab (qkw (by omega) (by omega)) ?_
     rintro n29 hn29
     refine W_if (fun c5=>?_) fun c5=>?_
     ·refine qaa ?_
      refine⟨fun h=>by simp at h,fun h=>?_⟩
      have g:=(h.all (k:=n9) (by omega)) (by omega) (by omega)
      have g2:=g n24.toNat (by omega) (hb27.symm.trans c4)
      omega
     ·refine qah (by omega) fun n30 hn30=>?_
      exact ihr12.use _ ⟨_,rfl,by omega,FA.succ hr12_1 (by omega) hn30 (fun _=>by omega)⟩ (by dsimp only;omega)
    ·refine qah (by omega) fun n28 hn28=>?_
     exact ihr12.use _ ⟨_,rfl,by omega,FA.succ hr12_1 (by omega) hn28 (fun h=>absurd (hb27.trans h) c4)⟩ (by dsimp only;omega)
   ·refine qah (by omega) fun n25 hn25=>?_
    exact ihr1.use _ ⟨_,rfl,by omega,FA.succ hr1_1 (by omega) hn25 (fun _ _ k h=>hr12_1 k (by omega))⟩ (by dsimp only;omega)
 ·refine qaa ?_
  refine⟨fun _ a h=>hr1_1 a (by omega),fun _=>rfl⟩
theorem qzU {a:Int}:W (qld a) (fun r=>r=true↔a≠4):=by
 unfold qld qii
 refine qaa ?_
 simp
theorem qzV {a:Int}:W (qlw a) (fun r=>r=true↔a≠1):=by
 unfold qlw qip
 refine qab (qra) ?_
 rintro b1 hb1
 refine qaa ?_
 subst hb1;simp
theorem q8n {s:List UInt8}{f:Unit×Unit}(p0:s.length≤1000000000):W (q1w s f) (fun r=>0≤r↔¬ FA (fun i=>La s i=4) s.length):=by
 unfold q1w qvO
 refine qaj (fun v=>∃ n4,v=((),(),s,((),()),(s.length:Int),n4,())∧(0≤n4∧n4≤(s.length:Int))∧(FA (fun i=>La s i=4) n4)) (fun(_,_,_,(_,_),_,n4,_)=>((s.length:Int)-n4).toNat) ⟨_,rfl,by omega,FA.zero⟩ (by simp only[NN];omega) ?_
 rintro r1 _ ⟨n4,rfl,hr1_0,hr1_1⟩ ihr1
 refine W_if (fun c1=>?_) fun c1=>?_
 ·refine W_ix (by omega) fun x5 hx5=>?_
  refine qab (qzU) ?_
  rintro b6 hb6
  refine W_if (fun c2=>?_) fun c2=>?_
  ·refine qaa ?_
   refine⟨fun _=>FA.bad (k:=n4) (by omega) (fun e=>hb6.1 c2 ?_),fun _=>by omega⟩
   rw[hx5];exact e
  ·refine qah (by omega) fun n7 hn7=>?_
   exact ihr1.use _ ⟨_,rfl,by omega,FA.succ hr1_1 (by omega) hn7 (Classical.not_not.1 fun e=>c2 (hb6.2 (by rw[hx5];exact e)))⟩ (by dsimp only;omega)
 ·refine qaa ?_
  refine⟨fun h=>by omega,fun h=>absurd (fun i g=>hr1_1 i (by omega)) h⟩
theorem q8o {s:List UInt8}{f:Unit×Unit}(p0:s.length≤1000000000):W (q16 s f) (fun r=>r=false↔FA (fun i=>La s i=4) s.length):=by
 unfold q16 qwc
 refine qab (q8n (by omega)) ?_
 rintro n1 hn1
 refine qaa ?_
 rw[decide_eq_false_iff_not,ge_iff_le,hn1,Classical.not_not]
theorem q8p {s:List UInt8}{f:Unit×Unit}(p0:s.length≤1000000000):W (q18 s f) (fun r=>0≤r↔¬ FA (fun i=>La s i=1) s.length):=by
 unfold q18 qwd
 refine qaj (fun v=>∃ n4,v=((),(),s,((),()),(s.length:Int),n4,())∧(0≤n4∧n4≤(s.length:Int))∧(FA (fun i=>La s i=1) n4)) (fun(_,_,_,(_,_),_,n4,_)=>((s.length:Int)-n4).toNat) ⟨_,rfl,by omega,FA.zero⟩ (by simp only[NN];omega) ?_
 rintro r1 _ ⟨n4,rfl,hr1_0,hr1_1⟩ ihr1
 refine W_if (fun c1=>?_) fun c1=>?_
 ·refine W_ix (by omega) fun x5 hx5=>?_
  refine qab (qzV) ?_
  rintro b6 hb6
  refine W_if (fun c2=>?_) fun c2=>?_
  ·refine qaa ?_
   refine⟨fun _=>FA.bad (k:=n4) (by omega) (fun e=>hb6.1 c2 ?_),fun _=>by omega⟩
   rw[hx5];exact e
  ·refine qah (by omega) fun n7 hn7=>?_
   exact ihr1.use _ ⟨_,rfl,by omega,FA.succ hr1_1 (by omega) hn7 (Classical.not_not.1 fun e=>c2 (hb6.2 (by rw[hx5];exact e)))⟩ (by dsimp only;omega)
 ·refine qaa ?_
  refine⟨fun h=>by omega,fun h=>absurd (fun i g=>hr1_1 i (by omega)) h⟩
theorem q8q {s:List UInt8}{f:Unit×Unit}(p0:s.length≤1000000000):W (q1D s f) (fun r=>r=false↔FA (fun i=>La s i=1) s.length):=by
 unfold q1D qwh
 refine qab (q8p (by omega)) ?_
 rintro n1 hn1
 refine qaa ?_
 rw[decide_eq_false_iff_not,ge_iff_le,hn1,Classical.not_not]
theorem qiA {l:List UInt8}(p0:l.length≤1000000000):W (qdY l) (fun r=>r=true↔AllF l):=by
 unfold qdY ql6
 refine qab (q8o (by omega)) ?_
 rintro b1 hb1
 refine qaa ?_
 rw[Bool.not_eq_true'];exact hb1
theorem qrP {s:List UInt8}{v0:Int}(p0:0≤v0)(p1:s.length≤1000000000):W (qfG s v0) (fun r=>0≤r↔¬ FA (fun i=>La s i≠v0) s.length):=by
 unfold qfG qex
 refine qaj (fun v=>∃ n5,v=((),(),s,v0,(s.length:Int),n5,())∧(0≤n5∧n5≤(s.length:Int))∧(FA (fun i=>La s i≠v0) n5)) (fun(_,_,_,_,_,n5,_)=>((s.length:Int)-n5).toNat) ⟨_,rfl,by omega,FA.zero⟩ (by simp only[NN];omega) ?_
 rintro r1 _ ⟨n5,rfl,hr1_0,hr1_1⟩ ihr1
 refine W_if (fun c1=>?_) fun c1=>?_
 ·refine W_ix (by omega) fun x6 hx6=>?_
  refine W_if (fun c2=>?_) fun c2=>?_
  ·refine qaa ?_
   exact⟨fun _=>FA.bad (k:=n5) (by omega) (fun e=>e (by rw[c2,hx6];rfl)),fun _=>by omega⟩
  ·refine qah (by omega) fun n7 hn7=>?_
   exact ihr1.use _ ⟨_,rfl,by omega,FA.succ hr1_1 (by omega) hn7 (fun e=>c2 (by rw[hx6];exact e.symm))⟩ (by dsimp only;omega)
 ·refine qaa ?_
  refine⟨fun h=>by omega,fun h=>absurd (fun i g=>hr1_1 i (by omega)) h⟩
theorem qlS {s:List UInt8}{v0:Int}(p0:0≤v0)(p1:s.length≤1000000000):W (qcW s v0) (fun r=>r=false↔FA (fun i=>La s i≠v0) s.length):=by
 unfold qcW qct
 refine qab (qrP (by omega) (by omega)) ?_
 rintro n1 hn1
 refine qaa ?_
 rw[decide_eq_false_iff_not,ge_iff_le,hn1,Classical.not_not]
theorem q8r {s:SiteT}{now:List SeenT}{now2:Int}{now3:Bool}(p0:SOk s)(p1:qb4 s now now2 now3):W (q1F s now now2 now3) (fun r=>r=true):=by
 unfold q1F qwj
 obtain⟨⟨q1,q2,q3,q4,q5,q6,q7,q8⟩,q9⟩:=p0.shape
 have l0:=p1.1
 have m0:=p1.mem
 have l1:=p1.2.1
 refine qab (q2q (by omega) m0) ?_
 rintro z1 hz1
 simp only[List.take_length]
 refine W_if (fun c1=>?_) fun c1=>?_
 ·refine qab (qiA (by omega)) ?_
  rintro b2 hb2
  refine W_if (fun c2=>?_) fun c2=>?_
  ·refine qaa ?_
   rfl
  ·refine qab (qlR (by omega) (by omega)) ?_
   rintro b3 hb3
   refine qaa ?_
   have fr:now3=false:=Bool.eq_false_iff.2 fun e=>c2 (hb2.2 fun i hi=>(hz1.2 i (by omega)).trans (p1.2.2.1 e i (by omega)))
   rw[Bool.not_eq_true',hb3]
   intro a ha h1 b hb h2
   have g:=(p1.2.2.2 fr).2.2 a (by omega) b (by omega)
   rw[hz1.2 a (by omega)] at h1;rw[hz1.2 b (by omega)] at h2
   exact Bool.eq_false_iff.2 fun e=>(g e).elim h1 h2
 ·refine qaa ?_
  exfalso;omega
theorem q2r {s:SiteT}{now:List SeenT}{now2:Int}{now3:Bool}{l:List UInt8}(p0:SOk s)(p1:qb4 s now now2 now3)(p2:l.length≤1000):W (qqx s now now2 now3 l) (fun r=>r=0↔qdG s now now2 now3 l):=by
 unfold qqx qlC
 obtain⟨⟨q1,q2,q3,q4,q5,q6,q7,q8⟩,q9⟩:=p0.shape
 have l0:=p1.1
 have m0:=p1.mem
 refine W_if (fun c1=>?_) fun c1=>?_
 ·refine qaa ?_
  exact⟨fun h=>by omega,fun h=>absurd h.1 (by omega)⟩
 ·refine qab (qiA (by omega)) ?_
  rintro b1 hb1
  refine W_if (fun c2=>?_) fun c2=>?_
  ·refine qaa ?_
   exact⟨fun _=>⟨by omega,.inl (hb1.1 c2)⟩,fun _=>rfl⟩
  ·refine qab (qlS (by omega) (by omega)) ?_
   rintro b2 hb2
   have na:¬ AllF l:=fun h=>c2 (hb1.2 h)
   refine W_if (fun c3=>?_) fun c3=>?_
   ·refine qaa ?_
    exact⟨fun h=>by omega,fun h=>absurd (hb2.2 (h.2.resolve_left na).1) (by rw[c3];simp)⟩
   ·refine W_if (fun c4=>?_) fun c4=>?_
    ·refine qab (q8q (by omega)) ?_
     rintro b19 hb19
     refine W_if (fun c5=>?_) fun c5=>?_
     ·refine qaa ?_
      exact⟨fun h=>by omega,fun h=>absurd (hb19.2 ((h.2.resolve_left na).2.1 c4)) (by rw[c5];simp)⟩
     ·refine qaj (fun v=>∃ n28,v=((),((s,()),(now,now2,now3,()),()),l,now,(now.length:Int),n28,())∧(0≤n28∧n28≤(now.length:Int))∧(now3=false→FA (fun i=>qbg (s.groups.getD i (dflt 17)) (now.getD i (dflt 20)) (La l i)) n28)) (fun(_,((_,_),(_,_,_,_),_),_,_,_,n28,_)=>((now.length:Int)-n28).toNat) ⟨_,rfl,by omega,fun _=>FA.zero⟩ (by simp only[NN];omega) ?_
      rintro r20 _ ⟨n28,rfl,hr20_0,hr20_1⟩ ihr20
      refine W_if (fun c6=>?_) fun c6=>?_
      ·refine W_ix (by omega) fun x31 hx31=>?_
       refine W_ix (by omega) fun x32 hx32=>?_
       refine W_ix (by omega) fun x33 hx33=>?_
       refine qab (qzT) ?_
       rintro n34 hn34
       refine W_if (fun c7=>?_) fun c7=>?_
       ·refine qaa ?_
        exact⟨fun h=>absurd h c7.1,fun h=>absurd (hn34.2 (by rw[hx32,hx31,hx33];exact((h.2.resolve_left na).2.2.1 (by simpa using c7.2)) n28.toNat (by omega))) c7.1⟩
       ·refine qah (by omega) fun n35 hn35=>?_
        exact ihr20.use _ ⟨_,rfl,by omega,fun e=>FA.succ (hr20_1 e) (by omega) hn35 (by have:=hn34.1 (Classical.not_not.1 fun h=>c7 ⟨h,by simp[e]⟩);rw[hx32,hx31,hx33] at this;exact this)⟩ (by dsimp only;omega)
      ·refine qab (qlR (by omega) (by omega)) ?_
       rintro b29 hb29
       refine W_if (fun c8=>?_) fun c8=>?_
       ·refine qaa ?_
        exact⟨fun h=>by omega,fun h=>absurd (hb29.2 (h.2.resolve_left na).2.2.2.1) (by rw[c8];simp)⟩
       ·refine qab (qrb (by omega) (by omega)) ?_
        rintro b30 hb30
        refine W_if (fun c9=>?_) fun c9=>?_
        ·refine qaa ?_
         exact⟨fun h=>by omega,fun h=>absurd (hb30.2 (h.2.resolve_left na).2.2.2.2) (by rw[c9];simp)⟩
        ·refine qaa ?_
         exact⟨fun _=>⟨by omega,.inr ⟨hb2.1 (Bool.eq_false_iff.2 c3),fun _=>hb19.1 (Bool.eq_false_iff.2 c5),fun e i g=>hr20_1 e i (by omega),hb29.1 (Bool.eq_false_iff.2 c8),hb30.1 (Bool.eq_false_iff.2 c9)⟩⟩,fun _=>rfl⟩
    ·refine qaj (fun v=>∃ n11,v=((),((s,()),(now,now2,now3,()),()),l,now,(now.length:Int),n11,())∧(0≤n11∧n11≤(now.length:Int))∧(now3=false→FA (fun i=>qbg (s.groups.getD i (dflt 17)) (now.getD i (dflt 20)) (La l i)) n11)) (fun(_,((_,_),(_,_,_,_),_),_,_,_,n11,_)=>((now.length:Int)-n11).toNat) ⟨_,rfl,by omega,fun _=>FA.zero⟩ (by simp only[NN];omega) ?_
     rintro r3 _ ⟨n11,rfl,hr3_0,hr3_1⟩ ihr3
     refine W_if (fun c10=>?_) fun c10=>?_
     ·refine W_ix (by omega) fun x14 hx14=>?_
      refine W_ix (by omega) fun x15 hx15=>?_
      refine W_ix (by omega) fun x16 hx16=>?_
      refine qab (qzT) ?_
      rintro n17 hn17
      refine W_if (fun c11=>?_) fun c11=>?_
      ·refine qaa ?_
       exact⟨fun h=>absurd h c11.1,fun h=>absurd (hn17.2 (by rw[hx15,hx14,hx16];exact((h.2.resolve_left na).2.2.1 (by simpa using c11.2)) n11.toNat (by omega))) c11.1⟩
      ·refine qah (by omega) fun n18 hn18=>?_
       exact ihr3.use _ ⟨_,rfl,by omega,fun e=>FA.succ (hr3_1 e) (by omega) hn18 (by have:=hn17.1 (Classical.not_not.1 fun h=>c11 ⟨h,by simp[e]⟩);rw[hx15,hx14,hx16] at this;exact this)⟩ (by dsimp only;omega)
     ·refine qab (qlR (by omega) (by omega)) ?_
      rintro b12 hb12
      refine W_if (fun c12=>?_) fun c12=>?_
      ·refine qaa ?_
       exact⟨fun h=>by omega,fun h=>absurd (hb12.2 (h.2.resolve_left na).2.2.2.1) (by rw[c12];simp)⟩
      ·refine qab (qrb (by omega) (by omega)) ?_
       rintro b13 hb13
       refine W_if (fun c13=>?_) fun c13=>?_
       ·refine qaa ?_
        exact⟨fun h=>by omega,fun h=>absurd (hb13.2 (h.2.resolve_left na).2.2.2.2) (by rw[c13];simp)⟩
       ·refine qaa ?_
        exact⟨fun _=>⟨by omega,.inr ⟨hb2.1 (Bool.eq_false_iff.2 c3),fun h=>absurd h c4,fun e i g=>hr3_1 e i (by omega),hb12.1 (Bool.eq_false_iff.2 c12),hb13.1 (Bool.eq_false_iff.2 c13)⟩⟩,fun _=>rfl⟩
theorem isG_ex {s:SiteT}(h:SOk s):∃ G,IsG s G:=by
  obtain⟨r,-,g⟩:=qca h
  exact⟨r,g⟩
theorem qzW {s:SiteT}{now:List SeenT}{now2:Int}{now3:Bool}{l:List UInt8}(p0:SOk s)(p1:now.length=s.groups.length∧l.length=s.groups.length)(p2:0≤now2∧now2≤1048576):W (qlD s now now2 now3 l) (fun r=>qul s now now2 now3 l r.1 r.2.1 r.2.2):=by
 unfold qlD qbT
 obtain⟨⟨q1,q2,q3,q4,q5,q6,q7,q8⟩,q9⟩:=p0.shape
 refine qa3 (fun((z9,_),((n10,b11,_),(x12,_),(z13,n14,b15,_),(z16,n17,b18,_),_),z19,_)=>s=x12∧now=z13∧now2=n14∧now3=b15∧qft=z16∧(0:Int)=n17∧false=b18∧l=z19∧(z9=now∧n10=max 0 (now2-1)∧(b11=true↔AllF l))) (fun J1 hJ1=>?_) ?_
 ·refine W_wi (by omega) fun n2 hn2=>?_
  refine qac fun n3 hn3=>?_
  refine W_sm ?_
  refine qab (qks (by omega)) ?_
  rintro z4 hz4
  refine W_sm ?_
  refine qab (qiA (by omega)) ?_
  rintro b5 hb5
  refine W_rs rfl ?_
  exact hJ1.use _ (by dsimp only;exact⟨rfl,rfl,rfl,rfl,rfl,rfl,rfl,rfl,hz4,by rw[hn3,hn2],hb5⟩)
 ·rintro⟨⟨z9,_⟩,⟨⟨n10,b11,_⟩,⟨x12,_⟩,⟨z13,n14,b15,_⟩,⟨z16,n17,b18,_⟩,_⟩,z19,_⟩ kJ1;dsimp only at kJ1
  obtain⟨rfl,rfl,rfl,rfl,rfl,rfl,rfl,rfl,kJ1⟩:=kJ1
  obtain⟨k1,k2,k3⟩:=kJ1
  have lk:=congrArg List.length k1
  refine W_rs rfl ?_
  refine W_rs rfl ?_
  refine qaj (fun v=>∃ z21 n33,v=((z21,()),((n10,b11,()),(s,()),(now,now2,now3,()),(qft,(0:Int),false,()),()),l,(z9.length:Int),n33,())∧(0≤n33∧n33≤(z9.length:Int))∧(z21.length=s.groups.length)∧(FA (fun i=>z21.getD i (dflt 20)=nx (now.getD i (dflt 20)) (La l i)) n33)∧(∀ k:Nat,n33≤(k:Int)→z21.getD k (dflt 20)=now.getD k (dflt 20))) (fun((z21,_),((_,_,_),(_,_),(_,_,_,_),(_,_,_,_),_),_,_,n33,_)=>((z9.length:Int)-n33).toNat) ⟨_,_,rfl,by omega,by omega,FA.zero,fun _ _=>by rw[k1]⟩ (by simp only[NN];omega) ?_
  rintro r20 _ ⟨z21,n33,rfl,hr20_0,hr20_1,hr20_2,hr20_3⟩ ihr20
  refine W_if (fun c4=>?_) fun c4=>?_
  ·refine W_rb (by omega) ?_
   refine qaf (by omega) ?_
   refine W_ix (by omega) fun x38 hx38=>?_
   refine W_ix (by omega) fun x39 hx39=>?_
   refine qab (q5E) ?_
   rintro x40 hx40
   refine W_rb (by omega) ?_
   refine qaf (by omega) ?_
   refine qac fun z41 hz41=>?_
   have lz41:=congrArg List.length hz41;try simp at lz41
   have sn:=set_nx (s:=s) hr20_2 hr20_3 (by omega) rfl hz41 (by rw[hx40,hx39];rfl)
   refine qah (by omega) fun n42 hn42=>?_
   rw[← hn42] at sn
   refine W_rs (by omega) ?_
   refine W_rs (by omega) ?_
   exact ihr20.use _ ⟨_,_,rfl,by omega,by rw[hz41,List.length_set];omega,sn.1,sn.2⟩ (by dsimp only;omega)
  ·refine W_if (fun c11=>?_) fun c11=>?_
   ·refine qab (qca (by omega)) ?_
    rintro n37 hn37
    refine qaa ?_
    exact⟨⟨by dsimp only;rw[List.take_length];omega,fun i h=>by dsimp only;rw[List.take_length];exact hr20_2 i (by omega)⟩,k3,n37,hn37,by dsimp only;rw[if_pos (by assumption)]⟩
   ·refine W_if (fun c12=>?_) fun c12=>?_
    ·refine qab (qca (by omega)) ?_
     rintro n34 hn34
     have g34:=hn34.1
     refine W_wi (by omega) fun n35 hn35=>?_
     refine qac fun n36 hn36=>?_
     refine qaa ?_
     exact⟨⟨by dsimp only;rw[List.take_length];omega,fun i h=>by dsimp only;rw[List.take_length];exact hr20_2 i (by omega)⟩,k3,n34,hn34,by dsimp only;rw[if_neg (by assumption),if_pos (by assumption)];omega⟩
    ·refine qaa ?_
     obtain⟨G,hG⟩:=isG_ex p0
     exact⟨⟨by dsimp only;rw[List.take_length];omega,fun i h=>by dsimp only;rw[List.take_length];exact hr20_2 i (by omega)⟩,k3,G,hG,by dsimp only;rw[if_neg (by assumption),if_neg (by assumption)];omega⟩
theorem qed {s:SiteT}{now:List SeenT}{now2:Int}{now3:Bool}{lights:List UInt8}(p0:SG s)(p1:qb4 s now now2 now3)(p2:lights.length≤1000):W (qeS s now now2 now3 lights) (fun r=>r.2.1=0∧(r.1=0↔qdG s now now2 now3 lights)∧(r.1=0→qul s now now2 now3 lights r.2.2.1 r.2.2.2.1 r.2.2.2.2)∧(r.1≠0→r.2.2=(now,now2,now3))):=by
 unfold qeS qqA
 obtain⟨⟨q1,q2,q3,q4,q5,q6,q7,q8⟩,q9⟩:=p0.ok.shape
 have l0:=p1.1
 have l1:=p1.2.1
 refine qb5 (p0.ck) ?_
 refine W_if (fun c1=>?_) fun c1=>?_
 ·refine qaa ?_
  exact absurd rfl c1
 ·refine qab (q8r p0.ok p1) ?_
  rintro b2 hb2
  refine W_if (fun c2=>?_) fun c2=>?_
  ·refine qaa ?_
   subst hb2;simp at c2
  ·refine qab (q2r p0.ok p1 p2) ?_
   rintro n3 hn3
   refine W_if (fun c3=>?_) fun c3=>?_
   ·refine qab (qks (by omega)) ?_
    rintro z7 hz7
    refine qaa ?_
    subst hz7;rw[List.take_length];exact⟨rfl,hn3,fun h=>absurd h c3,fun _=>rfl⟩
   ·refine qab (qzW p0.ok ⟨l0,(hn3.1 (Classical.not_not.1 c3)).1⟩ l1) ?_
    rintro⟨z4,n5,b6⟩ hz4
    dsimp only at hz4
    refine qaa ?_
    exact⟨rfl,⟨fun _=>hn3.1 (Classical.not_not.1 c3),fun _=>rfl⟩,fun _=>hz4,fun h=>absurd rfl h⟩
end Go.Proofs.YtcdppfnjidlknaaGreatDoor
namespace Go.Proofs.YtcdppfnjidlknaaGreatDoor
open Go Go.Eng Go.Proofs Go.Wp
def Gs (st:Int)(fl:Bool)(g:SeenT):Prop:=(fl=true→g.aspectf=4)∧(fl=false→(1≤g.aspectf∧g.aspectf≤3)∧(0<st→g.aspectf=1))
theorem qb4.goes {s:SiteT}{z:List SeenT}{st:Int}{fl:Bool}(h:qb4 s z st fl):∀ g∈z,Gs st fl g:=by
  intro g hg
  obtain⟨k,hk,e⟩:=List.getElem_of_mem hg
  have e2:As z k=g.aspectf:=by unfold As;rw[qbK hk,e]
  have hk:(k:Int)<s.groups.length:=by have:=h.1;omega
  exact⟨fun f=>e2▸h.2.2.1 f k hk,fun f=>⟨e2▸(h.2.2.2 f).1 k hk,fun t=>e2▸(h.2.2.2 f).2.1 t k hk⟩⟩
theorem qzX {z z':List UInt8}{a n:Int}(g:0≤n∧n<z.length)(ez:z'=z.set (0+n.toNat) (UInt8.ofNat a.toNat))(b:0≤a∧a<256):La z' n.toNat=a∧(∀ k:Nat,(k:Int)≠n→La z' k=La z k)∧z'.length=z.length:=by
  subst ez
  refine⟨?_,fun k hk=>?_,List.length_set⟩
  · unfold La
    rw[show 0+n.toNat=n.toNat by omega,List.getD_eq_getElem?_getD,List.getElem?_set_self (by omega)]
    simp only[Option.getD_some]
    rw[UInt8.toNat_ofNat']
    omega
  · unfold La
    rw[List.getD_eq_getElem?_getD,List.getElem?_set_ne (by omega),← List.getD_eq_getElem?_getD]
def W1 (s:SiteT)(z:List SeenT)(l:List UInt8)(i:Nat):Prop:=qbg (s.groups.getD i (dflt 17)) (z.getD i (dflt 20)) (La l i)∧(As z i=1→La l i=1)∧(La l i=2→As z i=2)
def W2 (s:SiteT)(z:List SeenT)(l:List UInt8):Prop:=FA (fun i=>qbg (s.groups.getD i (dflt 17)) (z.getD i (dflt 20)) (La l i)) s.groups.length∧FA (fun a=>FA (fun b=>ap s a b=true→La l a=1∨La l b=1) s.groups.length) s.groups.length∧FA (fun i=>La l i=2→As z i≠2→FA (fun k=>ap s k i=true→bt s k i≤En z k) s.groups.length) s.groups.length
theorem w1_w2 {s:SiteT}{z:List SeenT}{l:List UInt8}{st:Int}{fl:Bool}(h:qb4 s z st fl)(f:fl=false)(g:FA (W1 s z l) s.groups.length):W2 s z l:=by
  refine⟨fun i hi=>(g i hi).1,fun a ha b hb p=>?_,fun i hi e1 e2=>absurd ((g i hi).2.2 e1) e2⟩
  exact((h.2.2.2 f).2.2 a ha b hb p).imp (g a ha).2.1 (g b hb).2.1
theorem w2_set {s:SiteT}{z:List SeenT}{l l':List UInt8}{n:Int}(ok:SOk s)(h:W2 s z l)(g:0≤n∧n<s.groups.length)(a1:As z n.toNat=1)(q:La l' n.toNat=2∧(∀ k:Nat,(k:Int)≠n→La l' k=La l k)∧l'.length=l.length)(b:FA (fun k=>ap s n.toNat k=true→La l k=1∧bt s k n.toNat≤En z k) s.groups.length):W2 s z l':=by
  refine⟨fun i hi=>?_,fun x hx y hy p=>?_,fun i hi e1 e2 k hk p=>?_⟩
  · by_cases c:(i:Int)=n
    · subst c
      simp only[Int.toNat_natCast] at a1 q
      rw[q.1];unfold As at a1;unfold qbg;omega
    · show qbg _ _ (La l' i);rw[q.2.1 i c];exact h.1 i hi
  · have pk:=ok.apart.2 x hx y hy
    have ne:=(pk.2.1 p).1
    by_cases c:(x:Int)=n
    · subst c
      simp only[Int.toNat_natCast] at b
      right;rw[q.2.1 y (by omega)];exact(b y hy p).1
    · by_cases c2:(y:Int)=n
      · subst c2
        simp only[Int.toNat_natCast] at b
        left;rw[q.2.1 x (by omega)];exact(b x hx (pk.1▸p)).1
      · rw[q.2.1 x c,q.2.1 y c2];exact h.2.1 x hx y hy p
  · by_cases c:(i:Int)=n
    · subst c
      simp only[Int.toNat_natCast] at b
      have pk:=ok.apart.2 k hk i hi
      exact(b k hk (pk.1▸p)).2
    · rw[q.2.1 i c] at e1;exact h.2.2 i hi e1 e2 k hk p
theorem w2_nf {s:SiteT}{z:List SeenT}{l:List UInt8}{st:Int}{fl:Bool}(h:qb4 s z st fl)(f:fl=false)(t:¬ 0<st)(le:l.length=s.groups.length)(g:W2 s z l):qdG s z st fl l:=by
  refine⟨le,.inr ⟨fun i hi=>?_,fun e=>?_,fun _=>g.1,fun a ha h1 b hb h2=>?_,fun i hi e1 e2 k hk p=>?_⟩⟩
  · have:=(g.1 i (by omega)).2.1;dsimp only;omega
  · exact(e.elim (fun e=>by rw[f] at e;cases e) (fun e=>absurd e t))
  · exact Bool.eq_false_iff.2 fun e=>(g.2.1 a (by omega) b (by omega) e).elim h1 h2
  · exact g.2.2 i (by have:=h.1;omega) e1 e2 k (by have:=h.1;omega) p
theorem red_nf {s:SiteT}{z:List SeenT}{l:List UInt8}{st:Int}{fl:Bool}(h:qb4 s z st fl)(t:fl=true∨0<st)(le:l.length=s.groups.length)(g:AllR l):qdG s z st fl l:=by
  refine⟨le,.inr ⟨fun i hi=>by have:=g i hi;dsimp only at this ⊢;omega,fun _=>g,fun f i hi=>?_,fun a ha h1=>absurd (g a ha) h1,fun i hi e1=>?_⟩⟩
  · have h1:=g i (by omega)
    have h2:=(h.2.2.2 f).2.1 (t.resolve_left (by rw[f];simp)) i hi
    dsimp only at h1 h2 ⊢
    unfold As at h2
    rw[h1];unfold qbg;omega
  · have:=g i (by have:=h.1;omega);dsimp only at this;omega
theorem q5F {g:Grp}{s:SeenT}{ask:Int}(p0:1≤s.aspectf∧s.aspectf≤3):W (qn7 g s ask) (fun r=>qbg g s r∧(r=2→s.aspectf≠1→s.aspectf=2)):=by
 unfold qn7 qpQ
 refine qab (qh3) ?_
 rintro n1 hn1
 refine W_if (fun c1=>?_) fun c1=>?_
 ·refine W_if (fun c2=>?_) fun c2=>?_
  ·refine qaa ?_
   unfold qbg;omega
  ·refine qaa ?_
   unfold qbg;omega
 ·refine W_if (fun c3=>?_) fun c3=>?_
  ·refine W_if (fun c4=>?_) fun c4=>?_
   ·refine qaa ?_
    unfold qbg;omega
   ·refine qaa ?_
    unfold qbg;omega
  ·refine W_if (fun c5=>?_) fun c5=>?_
   ·refine W_if (fun c6=>?_) fun c6=>?_
    ·refine qaa ?_
     unfold qbg;omega
    ·refine qaa ?_
     unfold qbg;omega
   ·refine qaa ?_
    unfold qbg;omega
theorem qrc {n:Int}{a:Int}(p0:0≤n∧n≤1000)(p1:0≤a∧a<256):W (qkY n a) (fun r=>r.length=n.toNat∧FA (fun i=>La r i=a) n):=by
 unfold qkY qvy
 refine qaf (by omega) ?_
 refine W_rs (by simp) ?_
 refine qaj (fun v=>∃ z2 n5,v=((z2,()),(),a,(↑n.toNat:Int),n5,())∧(0≤n5∧n5≤(↑n.toNat:Int))∧(z2.length=n.toNat)∧(FA (fun i=>La z2 i=a) n5)) (fun((z2,_),_,_,_,n5,_)=>((↑n.toNat:Int)-n5).toNat) ⟨_,_,rfl,by omega,by simp,FA.zero⟩ (by simp only[NN];omega) ?_
 rintro r1 _ ⟨z2,n5,rfl,hr1_0,hr1_1,hr1_2⟩ ihr1
 refine W_if (fun c3=>?_) fun c3=>?_
 ·refine W_rb (by omega) ?_
  refine qaf (by omega) ?_
  refine qac fun z6 hz6=>?_
  have sl:=qzX (by omega) hz6 p1
  refine qah (by omega) fun n7 hn7=>?_
  refine W_rs (by omega) ?_
  exact ihr1.use _ ⟨_,_,rfl,by omega,by omega,FA.succ (fun k hk=>(sl.2.1 k (by omega)).trans (hr1_2 k hk)) (by omega) hn7 sl.1⟩ (by dsimp only;omega)
 ·refine W_rs rfl ?_
  refine qaa ?_
  exact⟨hr1_1,fun i h=>hr1_2 i (by omega)⟩
theorem q2s {now:List SeenT}{now2:Int}{now3:Bool}{g:SeenT}(p0:Gs now2 now3 g):W (qp1 now now2 now3 g) (fun r=>(false,now,now2,now3)=r):=by
 unfold qp1 qlf
 refine W_if (fun c1=>?_) fun c1=>?_
 ·refine qaa ?_
  have:=p0.1 c1;simp[this]
 ·refine qaa ?_
  have:=p0.2 (Bool.eq_false_iff.2 c1)
  have e1:decide (g.aspectf<1)=false:=by simp;omega
  have e2:decide (g.aspectf > 3)=false:=by simp;omega
  rw[e1,e2]
  by_cases h:now2 > 0
  · have:=this.2 h;simp[this]
  · simp[h]
theorem ifGoes_w {now:List SeenT}{now2:Int}{now3:Bool}{s:List SeenT}{f:Unit×Unit}(p0:∀ g∈s,Gs now2 now3 g)(p1:s.length≤1000):W (q7H now now2 now3 s f) (fun r=>(-1,now,now2,now3)=r):=by
 unfold q7H q1x
 refine qaj (fun v=>∃ z2 n3 b4 n7,v=((),((z2,n3,b4,()),()),s,((),()),(s.length:Int),n7,())∧(0≤n7∧n7≤(s.length:Int))∧(now=z2∧now2=n3∧now3=b4)) (fun(_,((z2,n3,b4,_),_),_,(_,_),_,n7,_)=>((s.length:Int)-n7).toNat) ⟨_,_,_,_,rfl,by omega,⟨rfl,rfl,rfl⟩⟩ (by simp only[NN];omega) ?_
 rintro r1 _ ⟨z2,n3,b4,n7,rfl,hr1_0,hr1_1⟩ ihr1
 obtain⟨rfl,rfl,rfl⟩:=hr1_1
 refine W_if (fun c1=>?_) fun c1=>?_
 ·refine W_ix (by omega) fun x8 hx8=>?_
  refine qab (q2s (by rw[hx8];exact qaq p0 (by omega))) ?_
  rintro⟨b9,z10,n11,b12⟩ hb9
  simp only[Prod.mk.injEq] at hb9;obtain⟨rfl,rfl,rfl,rfl⟩:=hb9
  refine W_if (fun c2=>?_) fun c2=>?_
  ·refine qaa ?_
   simp at c2
  ·refine qah (by omega) fun n13 hn13=>?_
   exact ihr1.use _ ⟨_,_,_,_,rfl,by omega,⟨rfl,rfl,rfl⟩⟩ (by dsimp only;omega)
 ·refine qaa ?_
  rfl
theorem cfGoes_w {now:List SeenT}{now2:Int}{now3:Bool}{s:List SeenT}{f:Unit×Unit}(p0:∀ g∈s,Gs now2 now3 g)(p1:s.length≤1000):W (q7M now now2 now3 s f) (fun r=>(false,now,now2,now3)=r):=by
 unfold q7M q19
 refine qab (ifGoes_w (by omega) (by omega)) ?_
 rintro⟨n1,z2,n3,b4⟩ hn1
 refine qaa ?_
 simp only[Prod.mk.injEq] at hn1;obtain⟨rfl,rfl,rfl,rfl⟩:=hn1;rfl
theorem q5G {s:SiteT}{now:List SeenT}{now2:Int}{now3:Bool}(p0:SG s)(p1:qb4 s now now2 now3):W (qwr s now now2 now3) (fun r=>r=true):=by
 unfold qwr qqI
 obtain⟨⟨q1,q2,q3,q4,q5,q6,q7,q8⟩,q9⟩:=p0.ok.shape
 have l0:=p1.1
 refine W_if (fun c1=>?_) fun c1=>?_
 ·refine qaa ?_
  omega
 ·refine qwK (by omega) ?_
  refine W_rs (by simp) ?_
  refine qaj (fun v=>∃ z2 n8,v=((z2,()),((s,()),(now,now2,now3,()),()),(↑(now.length:Int).toNat:Int),n8,())∧(0≤n8∧n8≤(↑(now.length:Int).toNat:Int))∧(z2.length=now.length)) (fun((z2,_),((_,_),(_,_,_,_),_),_,n8,_)=>((↑(now.length:Int).toNat:Int)-n8).toNat) ⟨_,_,rfl,by omega,by simp⟩ (by simp only[NN];omega) ?_
  rintro r1 _ ⟨z2,n8,rfl,hr1_0,hr1_1⟩ ihr1
  refine W_if (fun c4=>?_) fun c4=>?_
  ·refine W_rb (by omega) ?_
   refine qaf (by omega) ?_
   refine qac fun z18 hz18=>?_
   have lz18:=congrArg List.length hz18;try simp at lz18
   refine qah (by omega) fun n19 hn19=>?_
   refine W_rs (by omega) ?_
   exact ihr1.use _ ⟨_,_,rfl,by omega,by omega⟩ (by dsimp only;omega)
  ·refine qab (qed p0 p1 (by rw[List.take_length];omega)) ?_
   rintro⟨n9,n10,z11,n12,b13⟩ hn9
   dsimp only at hn9
   refine W_if (fun c8=>?_) fun c8=>?_
   ·refine qaa ?_
    exact absurd hn9.1 (by assumption)
   ·refine qab (cfGoes_w p1.goes (by omega)) ?_
    rintro⟨b14,z15,n16,b17⟩ hb14
    refine qaa ?_
    simp only[Prod.mk.injEq] at hb14;obtain⟨rfl,-⟩:=hb14;rfl
theorem q2t {s:SiteT}{now:List SeenT}{now2:Int}{now3:Bool}(p0:SG s)(p1:qb4 s now now2 now3):W (qqM s now now2 now3) (fun r=>r=0):=by
 unfold qqM qlL
 refine qb5 (p0.ck) ?_
 refine W_if (fun c1=>?_) fun c1=>?_
 ·refine qaa ?_
  exact absurd rfl c1
 ·refine qab (q5G (by omega) (by omega)) ?_
  rintro b2 hb2
  refine W_if (fun c2=>?_) fun c2=>?_
  ·refine qaa ?_
   subst hb2;simp at c2
  ·refine qaa ?_
   rfl
theorem qzY {out:List UInt8}{now:List SeenT}{now2:Int}{now3:Bool}{s:SiteT}{i:Int}(p0:SOk s)(p1:now.length=s.groups.length∧out.length=s.groups.length)(p2:0≤i∧i<s.groups.length):W (qgB out now now2 now3 s i) (fun r=>(r.1=false→FA (fun k=>ap s i.toNat k=true→La out k=1∧bt s k i.toNat≤En now k) s.groups.length)∧(now,now2,now3,s,out)=r.2):=by
 unfold qgB qik
 obtain⟨⟨q1,q2,q3,q4,q5,q6,q7,q8⟩,q9⟩:=p0.shape
 refine W_rs rfl ?_
 refine qaj (fun v=>∃ n10,v=((out,()),((now,now2,now3,()),(s,()),(),()),i,now,(now.length:Int),n10,())∧(0≤n10∧n10≤(now.length:Int))∧(FA (fun k=>ap s i.toNat k=true→La out k=1∧bt s k i.toNat≤En now k) n10)) (fun((_,_),((_,_,_,_),(_,_),_,_),_,_,_,n10,_)=>((now.length:Int)-n10).toNat) ⟨_,rfl,by omega,FA.zero⟩ (by simp only[NN];omega) ?_
 rintro r1 _ ⟨n10,rfl,hr1_0,hr1_1⟩ ihr1
 refine W_if (fun c2=>?_) fun c2=>?_
 ·refine W_ix (by omega) fun x11 hx11=>?_
  refine W_ix (by omega) fun x12 hx12=>?_
  refine qaf (by omega) ?_
  refine qac fun n13 hn13=>?_
  refine qac fun n14 hn14=>?_
  have f14:(n14==1)=ap s i.toNat n10.toNat:=by rw[hn14,hn13,hx12,ap_bit (qdd _) (by omega)];unfold ap;rw[Int.toNat_of_nonneg (by omega)]
  refine qaf (by omega) ?_
  refine qaf (by omega) ?_
  refine qac fun n15 hn15=>?_
  refine qaf (by omega) ?_
  refine qac fun z16 hz16=>?_
  have l16:=qaq (d:=dflt 7) q9 (n:=n10) (by omega)
  rw[← hz16] at l16
  refine qaf (by omega) ?_
  refine qac fun n17 hn17=>?_
  have q14:ap s i.toNat n10.toNat=true→n14=1:=fun e=>by rw[e] at f14;simpa using f14
  have q15:n15=La out n10.toNat:=by rw[hn15,Nat.zero_add];rfl
  have q17:n17=bt s n10.toNat i.toNat:=by rw[hn17,hz16];rfl
  have q11:x11.endedf=En now n10.toNat:=by rw[hx11];rfl
  refine W_if (fun c8=>?_) fun c8=>?_
  ·refine W_rs rfl ?_
   refine qaa ?_
   exact⟨fun h=>by simp at h,rfl⟩
  ·refine qah (by omega) fun n18 hn18=>?_
   refine W_rs rfl ?_
   exact ihr1.use _ ⟨_,rfl,by omega,FA.succ hr1_1 (by omega) hn18 (fun e=>by have:=q14 e;omega)⟩ (by dsimp only;omega)
 ·refine W_rs rfl ?_
  refine qaa ?_
  exact⟨fun _ k h=>hr1_1 k (by omega),rfl⟩
theorem qzZ {a:Int}:W (qle a) (fun r=>r=true↔a≠4):=by
 unfold qle qij
 refine qaa ?_
 simp
theorem ifAdm_w {s:List UInt8}{f:Unit×Unit}(p0:s.length≤1000000000):W (ifAdm s f) (fun r=>0≤r↔¬ AllF s):=by
 unfold ifAdm q7L
 refine qaj (fun v=>∃ n4,v=((),(),s,((),()),(s.length:Int),n4,())∧(0≤n4∧n4≤(s.length:Int))∧(FA (fun i=>La s i=4) n4)) (fun(_,_,_,(_,_),_,n4,_)=>((s.length:Int)-n4).toNat) ⟨_,rfl,by omega,FA.zero⟩ (by simp only[NN];omega) ?_
 rintro r1 _ ⟨n4,rfl,hr1_0,hr1_1⟩ ihr1
 refine W_if (fun c1=>?_) fun c1=>?_
 ·refine W_ix (by omega) fun x5 hx5=>?_
  refine qab (qzZ) ?_
  rintro b6 hb6
  refine W_if (fun c2=>?_) fun c2=>?_
  ·refine qaa ?_
   refine⟨fun _=>FA.bad (k:=n4) (by omega) (fun e=>hb6.1 c2 ?_),fun _=>by omega⟩
   rw[hx5];exact e
  ·refine qah (by omega) fun n7 hn7=>?_
   exact ihr1.use _ ⟨_,rfl,by omega,FA.succ hr1_1 (by omega) hn7 (Classical.not_not.1 fun e=>c2 (hb6.2 (by rw[hx5];exact e)))⟩ (by dsimp only;omega)
 ·refine qaa ?_
  refine⟨fun h=>by omega,fun h=>absurd (fun i g=>hr1_1 i (by omega)) h⟩
theorem cfAdm_w {s:List UInt8}{f:Unit×Unit}(p0:s.length≤1000000000):W (cfAdm s f) (fun r=>r=false↔AllF s):=by
 unfold cfAdm q7Q
 refine qab (ifAdm_w (by omega)) ?_
 rintro n1 hn1
 refine qaa ?_
 rw[decide_eq_false_iff_not,ge_iff_le,hn1,Classical.not_not]
theorem q0a {s:SiteT}{now:List SeenT}{now2:Int}{now3:Bool}{asks:List UInt8}(p0:SOk s)(p1:qb4 s now now2 now3)(p2:asks.length=s.groups.length):W (ql7 s now now2 now3 asks) (fun r=>qdG s now now2 now3 r∧(AllF r↔AllF asks)):=by
 unfold ql7 qi1
 obtain⟨⟨q1,q2,q3,q4,q5,q6,q7,q8⟩,q9⟩:=p0.shape
 have l0:=p1.1
 have l1:=p1.2.1
 refine qab (cfAdm_w (by omega)) ?_
 rintro b1 hb1
 refine W_if (fun c1=>?_) fun c1=>?_
 ·refine qab (qfb (by omega)) ?_
  rintro z84 hz84
  refine W_rs rfl ?_
  refine qaa ?_
  subst hz84;exact⟨⟨p2,.inl (hb1.1 (by simpa using c1))⟩,Iff.rfl⟩
 ·have na:¬ AllF asks:=fun h=>c1 (by simpa using hb1.2 h)
  refine W_if (fun c3=>?_) fun c3=>?_
  ·refine W_if (fun c4=>?_) fun c4=>?_
   ·refine qab (qrc (by omega) (by omega)) ?_
    rintro z83 hz83
    refine W_rs rfl ?_
    refine qaa ?_
    exact⟨red_nf p1 (.inl c3) (by omega) (fun k h=>hz83.2 k (by omega)),fun h=>absurd (h 0 (by omega)) (by have:=hz83.2 0 (by omega);dsimp only at this ⊢;omega),fun h=>absurd h na⟩
   ·exact absurd c3 c4
  ·refine W_if (fun c6=>?_) fun c6=>?_
   ·refine qab (qrc (by omega) (by omega)) ?_
    rintro z42 hz42
    refine W_rs rfl ?_
    refine qaa ?_
    exact⟨red_nf p1 (.inr (by assumption)) (by omega) (fun k h=>hz42.2 k (by omega)),fun h=>absurd (h 0 (by omega)) (by have:=hz42.2 0 (by omega);dsimp only at this ⊢;omega),fun h=>absurd h na⟩
   ·refine qab (qrc (by omega) (by omega)) ?_
    rintro z2 hz2
    have fr:now3=false:=Bool.eq_false_iff.2 (by assumption)
    refine W_rs rfl ?_
    refine qaj (fun v=>∃ z4 n12,v=((z4,()),((),(s,()),(now,now2,now3,()),()),asks,now,(now.length:Int),n12,())∧(0≤n12∧n12≤(now.length:Int))∧(z4.length=s.groups.length)∧(FA (W1 s now z4) n12)∧(∀ k:Nat,n12≤(k:Int)→(k:Int)<s.groups.length→La z4 k=1)) (fun((z4,_),(_,(_,_),(_,_,_,_),_),_,_,_,n12,_)=>((now.length:Int)-n12).toNat) ⟨_,_,rfl,by omega,by omega,FA.zero,fun k _ h=>hz2.2 k (by omega)⟩ (by simp only[NN];omega) ?_
    rintro r3 _ ⟨z4,n12,rfl,hr3_0,hr3_1,hr3_2,hr3_3⟩ ihr3
    refine W_if (fun c9=>?_) fun c9=>?_
    ·refine W_ix (by omega) fun x35 hx35=>?_
     have a35:As now n12.toNat=x35.aspectf:=by rw[hx35];rfl
     have g35:=(p1.2.2.2 fr).1 n12.toNat (by omega)
     dsimp only at g35
     have hx35':=hx35.symm
     refine W_if (fun c10=>?_) fun c10=>?_
     ·refine W_ix (by omega) fun x37 hx37=>?_
      have hx37':=hx37.symm
      refine W_ix (by omega) fun x38 hx38=>?_
      refine qab (q5F (by rw[← a35];exact g35)) ?_
      rintro n39 hn39
      refine W_rb (by omega) ?_
      refine qaf (by omega) ?_
      refine qac fun z40 hz40=>?_
      have sl:=qzX (by omega) hz40 (by have:=hn39.1.2.1;omega)
      refine qah (by omega) fun n41 hn41=>?_
      refine W_rs (by omega) ?_
      exact ihr3.use _ ⟨_,_,rfl,by omega,by omega,FA.succ (fun k hk=>by unfold W1;rw[sl.2.1 k (by omega)];exact hr3_2 k hk) (by omega) hn41 (by unfold W1;rw[sl.1,hx37',hx35'];exact⟨hn39.1,by omega,fun e=>by have:=hn39.2 e;omega⟩),fun k h1 h2=>(sl.2.1 k (by omega)).trans (hr3_3 k (by omega) h2)⟩ (by dsimp only;omega)
     ·refine qah (by omega) fun n36 hn36=>?_
      refine W_rs rfl ?_
      exact ihr3.use _ ⟨_,_,rfl,by omega,by omega,FA.succ hr3_2 (by omega) hn36 (by unfold W1;rw[hr3_3 n12.toNat (by omega) (by omega),hx35'];exact⟨by unfold qbg;omega,by omega,by omega⟩),fun k h1 h2=>hr3_3 k (by omega) h2⟩ (by dsimp only;omega)
    ·refine W_rs rfl ?_
     refine qaj (fun v=>∃ z14 x15 z16 n17 b18 n22,v=((z14,()),((),(x15,()),(z16,n17,b18,()),()),asks,((),()),now,(now.length:Int),n22,())∧(0≤n22∧n22≤(now.length:Int))∧(z14.length=s.groups.length)∧(W2 s now z14)∧(now=z16∧now2=n17∧now3=b18∧s=x15)) (fun((z14,_),(_,(x15,_),(z16,n17,b18,_),_),_,(_,_),_,_,n22,_)=>((now.length:Int)-n22).toNat) ⟨_,_,_,_,_,_,rfl,by omega,hr3_1,w1_w2 p1 fr (fun k h=>hr3_2 k (by omega)),⟨rfl,rfl,rfl,rfl⟩⟩ (by simp only[NN];omega) ?_
     rintro r13 _ ⟨z14,x15,z16,n17,b18,n22,rfl,hr13_0,hr13_1,hr13_2,hr13_3⟩ ihr13
     obtain⟨rfl,rfl,rfl,rfl⟩:=hr13_3
     refine W_if (fun c16=>?_) fun c16=>?_
     ·refine W_ix (by omega) fun x23 hx23=>?_
      have a23:As now n22.toNat=x23.aspectf:=by rw[hx23];rfl
      refine qaf (by omega) ?_
      refine qac fun x24 hx24=>?_
      refine W_if (fun c18=>?_) fun c18=>?_
      ·refine W_rs rfl ?_
       refine qab (qzY p0 ⟨l0,hr13_1⟩ (by omega)) ?_
       rintro⟨b26,z27,n28,b29,x30,z31⟩ hb26
       dsimp only at hb26
       simp only[Prod.mk.injEq] at hb26;obtain⟨hb,rfl,rfl,rfl,rfl,rfl⟩:=hb26
       refine W_if (fun c20=>?_) fun c20=>?_
       ·refine W_rb (by omega) ?_
        refine qaf (by omega) ?_
        refine qac fun z33 hz33=>?_
        have sl:=qzX (a:=2) (by omega) hz33 (by omega)
        refine qah (by omega) fun n34 hn34=>?_
        refine W_rs (by omega) ?_
        exact ihr13.use _ ⟨_,_,_,_,_,_,rfl,by omega,by omega,w2_set p0 hr13_2 (by omega) (by omega) sl (hb (Bool.eq_false_iff.2 (by assumption))),⟨rfl,rfl,rfl,rfl⟩⟩ (by dsimp only;omega)
       ·refine qah (by omega) fun n32 hn32=>?_
        refine W_rs rfl ?_
        exact ihr13.use _ ⟨_,_,_,_,_,_,rfl,by omega,hr13_1,hr13_2,⟨rfl,rfl,rfl,rfl⟩⟩ (by dsimp only;omega)
      ·refine qah (by omega) fun n25 hn25=>?_
       refine W_rs rfl ?_
       exact ihr13.use _ ⟨_,_,_,_,_,_,rfl,by omega,hr13_1,hr13_2,⟨rfl,rfl,rfl,rfl⟩⟩ (by dsimp only;omega)
     ·refine W_rs rfl ?_
      refine qaa ?_
      exact⟨w2_nf p1 fr c6 hr13_1 hr13_2,fun h=>absurd (h 0 (by omega)) (by have:=(hr13_2.1 0 (by omega)).2.1;dsimp only at this ⊢;omega),fun h=>absurd h na⟩
theorem qrd {s:SiteT}{now:List SeenT}{now2:Int}{now3:Bool}{asks:List UInt8}(p0:SG s)(p1:qb4 s now now2 now3)(p2:asks.length=s.groups.length):W (qkl s now now2 now3 asks) (fun r=>r.2=0∧qdG s now now2 now3 r.1∧(AllF r.1↔AllF asks)):=by
 unfold qkl qlO
 refine qab (q2t p0 p1) ?_
 rintro n1 hn1
 refine W_if (fun c1=>?_) fun c1=>?_
 ·refine qaa ?_
  exact absurd hn1 c1
 ·refine W_if (fun c2=>?_) fun c2=>?_
  ·refine qaa ?_
   omega
  ·refine qab (q0a p0.ok p1 p2) ?_
   rintro z2 hz2
   refine qaa ?_
   dsimp only;rw[List.take_length];exact⟨rfl,hz2⟩
end Go.Proofs.YtcdppfnjidlknaaGreatDoor
