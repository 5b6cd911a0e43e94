import Derived.Test.YtcdppfnjidlknaaGreatDoorYbg
set_option linter.unusedVariables false
set_option linter.unusedSimpArgs false
namespace Go.Proofs.YtcdppfnjidlknaaGreatDoor
open Go Go.Eng Go.Proofs Go.Wp
theorem pcL_w {u:List UInt8}(h:u.length≤1000000):pcL u=[]∨∃ m:Msg,pcL u=[m]∧9≤u.length∧∀ o,qgf u=some (false,o)→m.kind=o.getD 0 0∧m.body=(o.take (o.length-4)).drop 5:=by
  obtain⟨⟨a,k,n,b⟩,e,-,h1,h2⟩:=qmO h
  unfold pcL
  rw[e]
  cases a
  · exact .inl rfl
  · refine .inr ⟨_,rfl,h1 rfl,fun o ho=>?_⟩
    obtain⟨g1,g2⟩:=h2 o ho rfl
    exact⟨by dsimp only at g1 ⊢;rw[g1,Int.toNat_natCast,UInt8.ofNat_toNat],g2⟩
theorem emit0 (g:Bool):emit (g,false,[]) 126=[]:=by
  unfold emit
  split
  · rcases pcL_w (u:=[]) (by simp) with h|⟨m,-,h,-⟩
    · exact h
    · simp at h
  · rfl
theorem qzP:∀ (b u:List UInt8),(∀ x,x∈b→x≠126)→u.length+b.length≤1043→qkt (true,false,u) b=(true,false,u++b)∧msgs (true,false,u) b=[]
  | [],u,_,_=>by simp[qkt,msgs]
  |x::b,u,h,hl=>by
    have hx:x≠126:=h x (List.mem_cons_self ..)
    simp only[List.length_cons] at hl
    have e:rst (true,false,u) x=(true,false,u++[x]):=by
      unfold rst
      rw[if_neg hx,if_neg (by show ¬ 1043≤u.length;omega),if_pos rfl]
    have g:emit (true,false,u) x=[]:=by unfold emit;rw[if_neg (fun c=>hx c.1)]
    obtain⟨r1,r2⟩:=qzP b (u++[x]) (fun y hy=>h y (List.mem_cons_of_mem _ hy)) (by simp only[List.length_append,List.length_cons,List.length_nil];omega)
    refine⟨?_,?_⟩
    · show qkt (rst (true,false,u) x) b=_
      rw[e,r1,List.append_assoc];rfl
    · rw[msgs,g,e,r2];rfl
theorem qzQ {c:List UInt8}(h:c.length≤521)(g:Bool):qkt (g,false,[]) (126::(stf c++[126]))=(true,false,[])∧msgs (g,false,[]) (126::(stf c++[126]))=pcL (stf c):=by
  have L:=qqU c
  obtain⟨r1,r2⟩:=qzP (stf c) [] (stf_no _) (by simp only[List.length_nil];omega)
  have e:rst (g,false,[]) 126=(true,false,[]):=rfl
  refine⟨?_,?_⟩
  · show qkt (rst (g,false,[]) 126) _=_
    rw[e,qku,r1];rfl
  · rw[msgs,emit0,e,qkv,r1,r2]
    show []++([]++(emit (true,false,[]++stf c) 126++[]))=_
    unfold emit
    rw[if_pos ⟨rfl,rfl,rfl⟩]
    simp
def Gd (l:List Msg)(b:List UInt8):Prop:=b.length≤6100∧(b=[]∨b.getD (b.length-1) 0=126)∧(∀ g,(qkt (g,false,[]) b).2=(false,[])∧msgs (g,false,[]) b=msgs (true,false,[]) b)∧∀ x∈msgs (true,false,[]) b,∃ y∈l,x.kind=y.kind∧x.body=y.body
theorem gd_nil (l:List Msg):Gd l []:=⟨by simp,.inl rfl,fun g=>⟨rfl,rfl⟩,fun x hx=>by simp[msgs] at hx⟩
theorem Gd.go {l:List Msg}{b f z:List UInt8}{n k:Int}{x:Msg}{k0:UInt8}(h:Gd (l.take n.toNat) b)(g:0≤n∧n<l.length)(ex:x=l.getD n.toNat (dflt 8))(em:k=n+1)(hb:b.length≤5000)(e1:k0=x.kind)(hf:∃ c,9≤c.length∧c.length≤521∧c.getD 0 0=k0∧(c.take (c.length-4)).drop 5=x.body∧f=126::(stf c++[126]))(ez:z=b++f):Gd (l.take k.toNat) z:=by
  obtain⟨c,c1,c2,c3,c4,rfl⟩:=hf
  obtain⟨h1,h2,h3,h4⟩:=h
  have L:=qqU c
  have fr:∀ s:Bool,∃ s',qkt (s,false,[]) b=(s',false,[]):=fun s=>⟨_,Prod.ext rfl (h3 s).1⟩
  have mg:∀ s,msgs (s,false,[]) z=msgs (true,false,[]) b++pcL (stf c):=fun s=>by
    obtain⟨s',e⟩:=fr s
    rw[ez,qkv,(h3 s).2,e,(qzQ c2 s').2]
  have lz:z.length=b.length+(stf c).length+2:=by rw[ez];simp;omega
  refine⟨by omega,.inr ?_,fun s=>⟨?_,by rw[mg,mg]⟩,fun y hy=>?_⟩
  · rw[lz,ez,List.getD_eq_getElem?_getD,List.getElem?_append_right (by omega),show b.length+(stf c).length+2-1-b.length=(stf c).length+1 by omega,List.getElem?_cons_succ,List.getElem?_append_right (by omega),Nat.sub_self];rfl
  · obtain⟨s',e⟩:=fr s
    rw[ez,qku,e,(qzQ c2 s').1]
  · rw[mg] at hy
    rw[q5L (dflt 8) g em,← ex]
    rcases List.mem_append.1 hy with hy|hy
    · obtain⟨q,hq,e⟩:=h4 y hy
      exact⟨q,List.mem_append_left _ hq,e⟩
    · refine⟨x,by simp,?_⟩
      rcases pcL_w (u:=stf c) (by omega) with e|⟨m',e,-,h5⟩
      · rw[e] at hy;simp at hy
      · rw[e] at hy
        simp only[List.mem_singleton] at hy
        obtain⟨h6,h7⟩:=h5 c (q8a c)
        rw[hy,h6,h7,c3,c4]
        exact⟨e1,rfl⟩
def Gvn (l:List Inp)(m:List (List Msg))(n:Int)(z:List Inp):Prop:=z.length=l.length∧(∀ k:Nat,(k:Int)<n→z.getD k (dflt 24)={l.getD k (dflt 24) with bytesf:=(z.getD k (dflt 24)).bytesf}∧Gd (m.getD k (dflt 11)) (z.getD k (dflt 24)).bytesf)∧∀ k:Nat,n≤(k:Int)→z.getD k (dflt 24)=l.getD k (dflt 24)
theorem qw6 {α:Type}{z:List α}{n k:Nat}{x d:α}(h:n<z.length):(z.set n x).getD k d=if k=n then x else z.getD k d:=by
  rw[List.getD_eq_getElem?_getD]
  split
  · rename_i e
    rw[e,List.getElem?_set_self h];rfl
  · rename_i e
    rw[List.getElem?_set_ne (Ne.symm e),List.getD_eq_getElem?_getD]
theorem Gvn.go {l:List Inp} {m:List (List Msg)} {z z':List Inp} {n k:Int} {b:List UInt8} (h:Gvn l m n z) (g:0≤n∧n<z.length) (em:k=n+1) (hz:z'=z.set n.toNat {z.getD n.toNat (dflt 24) with bytesf:=b}) (hb:Gd (m.getD n.toNat (dflt 11)) b):Gvn l m k z':=by
  obtain⟨h1,h2,h3⟩:=h
  have q:∀ i:Nat,z'.getD i (dflt 24)=if i=n.toNat then {z.getD n.toNat (dflt 24) with bytesf:=b} else z.getD i (dflt 24):=fun i=>by rw[hz];exact qw6 (by omega)
  refine⟨by rw[hz,List.length_set,h1],fun i hi=>?_,fun i hi=>by rw[q,if_neg (by omega)];exact h3 i (by omega)⟩
  rw[q]
  by_cases c:i=n.toNat
  · rw[if_pos c,c,h3 n.toNat (by omega)]
    exact⟨rfl,hb⟩
  · rw[if_neg c]
    exact h2 i (by omega)
theorem set2 {z z6 z10:List Inp} {n:Nat} {b:List UInt8} (h:n<z.length) (e6:z6=z.set (0+n) {z.getD (0+n) (dflt 24) with bytesf:=[]}) (e10:z10=z6.set (0+n) {z6.getD (0+n) (dflt 24) with bytesf:=b}):z10=z.set n {z.getD n (dflt 24) with bytesf:=b}:=by
  rw[Nat.zero_add] at e6 e10
  subst e6
  rw[e10,qw6 h,if_pos rfl,List.set_set]
def MOk (m:List (List Msg)):Prop:=m.length≤140737488355328∧∀ x∈m,x.length≤140737488355328∧∀ y∈x,y.body.length≤140737488355328
theorem q2n {l:List Msg}(p0:l.length≤140737488355328)(p1:∀ y∈l,y.body.length≤140737488355328):W (qqt l) (fun r=>r.2=true→Gd l r.1):=by
 unfold qqt ql8
 refine qaj (fun v=>∃ z2 n4,v=((z2,()),(),l,n4,())∧(0≤n4∧n4≤l.length)∧(Gd (l.take n4.toNat) z2)) (fun((z2,_),_,_,n4,_)=>(l.length-n4).toNat) ⟨_,_,rfl,by omega,gd_nil _⟩ (by simp only[NN];omega) ?_
 rintro r1 _ ⟨z2,n4,rfl,hr1_0,hr1_1⟩ ihr1
 have lz2:=hr1_1.1
 refine W_if (fun c1=>?_) fun c1=>?_
 ·refine W_ix (by omega) fun x5 hx5=>?_
  have g5:=p1 x5 (by rw[hx5];exact qb6 (by omega))
  refine qab (qmP (by dsimp only;omega)) ?_
  rintro⟨z6,n7⟩ hz6
  dsimp only at hz6
  refine W_if (fun c2=>?_) fun c2=>?_
  ·refine qaa ?_
   exact fun h=>by simp at h
  ·refine W_rm (by omega) ?_
   refine qac fun z8 hz8=>?_
   have lz8:=congrArg List.length hz8;try simp at lz8
   refine qah (by omega) fun n9 hn9=>?_
   refine W_rs (by omega) ?_
   exact ihr1.use _ ⟨_,_,rfl,by omega,hr1_1.go (by omega) hx5 hn9 (by omega) (by rw[Int.toNat_natCast,UInt8.ofNat_toNat]) (hz6.2 (by omega)).2 (by rw[hz8,List.take_length,List.take_length])⟩ (by dsimp only;omega)
 ·refine W_rs rfl ?_
  refine qaa ?_
  intro _;rw[List.take_of_length_le (by omega)] at hr1_1;exact hr1_1
theorem q5D {l:List Inp}{m:List (List Msg)}(p0:l.length*88≤140737488355328)(p1:MOk m):W (qnJ l m) (fun r=>(r.2=true→Gvn l m l.length r.1)∧(m=[]→r.2=true)):=by
 unfold qnJ qq0
 refine qaf (by omega) ?_
 refine qac fun z1 hz1=>?_
 have lz1:=congrArg List.length hz1;try simp at lz1
 refine W_rs (by omega) ?_
 refine qaj (fun v=>∃ z3 n5,v=((z3,()),(),m,n5,())∧(0≤n5∧n5≤l.length)∧(Gvn l m n5 z3)) (fun((z3,_),_,_,n5,_)=>((l.length:Int)-n5).toNat) ⟨_,_,rfl,⟨by omega,by omega⟩,⟨hz1▸rfl,fun k hk=>by omega,fun k hk=>by rw[hz1]⟩⟩ (by simp only[NN];omega) ?_
 rintro r2 _ ⟨z3,n5,rfl,hr2_0,hr2_1⟩ ihr2
 have lz3:=hr2_1.1
 refine W_if (fun c3=>?_) fun c3=>?_
 ·have pm:=p1.1
  refine W_rb (by omega) ?_
  refine qaf (by omega) ?_
  refine qac fun z6 hz6=>?_
  have lz6:=congrArg List.length hz6;try simp at lz6
  refine W_if (fun c6=>?_) fun c6=>?_
  ·refine qah (by omega) fun n12 hn12=>?_
   refine W_rs (by omega) ?_
   exact ihr2.use _ ⟨_,_,rfl,by omega,hr2_1.go (by omega) hn12 (by rw[hz6,Nat.zero_add]) (gd_nil _)⟩ (by dsimp only;omega)
  ·refine W_ix (by omega) fun z7 hz7=>?_
   have g7:=p1.2 z7 (by rw[hz7];exact qb6 (by omega))
   refine qab (q2n g7.1 g7.2) ?_
   rintro⟨z8,b9⟩ hz8
   dsimp only at hz8
   refine W_if (fun c8=>?_) fun c8=>?_
   ·refine qaa ?_
    exact⟨fun h=>by simp at h,fun h=>by have:=congrArg List.length h;rw[List.length_nil] at this;omega⟩
   ·refine W_rb (by omega) ?_
    refine qaf (by omega) ?_
    refine qac fun z10 hz10=>?_
    have lz10:=congrArg List.length hz10;try simp at lz10
    refine qah (by omega) fun n11 hn11=>?_
    refine W_rs (by omega) ?_
    exact ihr2.use _ ⟨_,_,rfl,by omega,hr2_1.go (by omega) hn11 (set2 (by omega) hz6 hz10) (by rw[List.take_length,← hz7];exact hz8 (Classical.not_not.1 c8))⟩ (by dsimp only;omega)
 ·refine W_rs rfl ?_
  refine qaa ?_
  exact⟨fun _=>(show n5=(l.length:Int) by omega)▸hr2_1,fun _=>rfl⟩
end Go.Proofs.YtcdppfnjidlknaaGreatDoor
namespace Go.Proofs.YtcdppfnjidlknaaGreatDoor
open Go Go.Eng Go.Proofs Go.Wp
theorem qnW:∀ {l:List Msg} {a:Bool×Int×List Msg} {v:Int},a.1=true∧v≤a.2.1→(lfo a l).1=true∧v≤(lfo a l).2.1
 | [],a,v,h=>h
 |x::l,a,v,h=>qnW (l:=l) (a:=lst a x) (by
  unfold lst
  split
  ·
   exact h
  ·
   rename_i c
   exact⟨rfl,by dsimp only;by_cases g:(x.seq.toNat:Int)≤a.2.1;exact absurd ⟨h.1,g⟩ c;omega⟩)
theorem q2o:∀ {l:List Msg} {a:Bool×Int×List Msg} {m:Msg},m∈l→(lfo a l).1=true∧(m.seq.toNat:Int)≤(lfo a l).2.1
 |x::l,a,m,h=>by
  rcases List.mem_cons.1 h with h|h
  ·
   subst h
   refine qnW (l:=l) (a:=lst a m) ?_
   unfold lst
   split
   ·
    rename_i c;exact c
   ·
    exact⟨rfl,Int.le_refl _⟩
  ·
   exact q2o (l:=l) (a:=lst a x) h
theorem q4z:∀ {l:List Msg} {a:Bool×Int×List Msg},(∀ m∈l,a.1=true∧(m.seq.toNat:Int)≤a.2.1)→lfo a l=a
 | [],a,_=>rfl
 |x::l,a,h=>by
  have e:lst a x=a:=by unfold lst;rw[if_pos (h x (List.mem_cons_self ..))]
  show lfo (lst a x) l=a
  rw[e]
  exact q4z fun m hm=>h m (List.mem_cons_of_mem _ hm)
noncomputable abbrev ms (b:List UInt8):List Msg:=msgs (true,false,[]) b
noncomputable def hF (s:SiteT)(x:LocT)(l:List Msg)(re:List UInt8):Bool×LocT :=
 let f:=lfo (x.any,x.last,[]) l
 let c:=cfo s (false,x.cycle,x.offset,x.splits) f.2.2
 (c.1,{x with any:=f.1,last:=f.2.1,lage:=if f.2.2=[] then min (x.lage+1) 1048576 else 0,rest:=re,cycle:=c.2.1,offset:=c.2.2.1,splits:=c.2.2.2,age:=if c.1=true then 0 else min (x.age+1) 1048576})
def Rs (r:List UInt8):Prop:=r=[]∨r=[126]
def reF (x:LocT)(b:List UInt8):List UInt8:=if x.rest++b=[] then [] else [126]
theorem reF_rs (x:LocT)(b:List UInt8):Rs (reF x b):=by
 unfold reF;split
 ·
  exact .inl rfl
 ·
  exact .inr rfl
theorem q8k {s:SiteT} {x:LocT} {i:Inp} {l:List Msg} (sg:SG s) (ok:LOk s x) (rs:Rs x.rest) (gd:Gd l i.bytesf) :
  qbG s x i [] [] [] [] []=some ((hF s x (ms i.bytesf) (reF x i.bytesf)).1,s,(hF s x (ms i.bytesf) (reF x i.bytesf)).2,i,[],[],[],[],[]):=by
 obtain⟨g1,g2,g3,-⟩:=gd
 obtain⟨⟨b,r⟩,e,an,la,lg,re,cy,og,sp,e2,-,-,-,sc,tk,n,f1,f2,f3,f4⟩:=qug (t:=s) (t2:=x) (t3:=i) (t4:=[]) (t5:=[]) (t6:=[]) (t7:=[]) (t8:=[]) sg ok (by omega)
 have ea:hall x i=x.rest++i.bytesf:=by
  unfold hall
  rw[List.take_of_length_le (by omega)];simp
 rw[ea] at f1 f3
 have lr:x.rest.length≤1:=by rcases rs with h|h<;>rw[h]<;>simp
 have ll:(x.rest++i.bytesf).length≤6101:=by rw[List.length_append];omega
 obtain⟨sc',e3,h1,-,h2,h3⟩:=qqV (b:=x.rest++i.bytesf) (by omega)
 rw[f1] at e3
 obtain rfl:=Option.some.inj e3
 obtain⟨h4,h5,h6⟩:=h3 (by omega)
 have em:msgs (false,false,[]) (x.rest++i.bytesf)=ms i.bytesf:=by
  rcases rs with h|h
  ·
   rw[h];exact(g3 false).2
  ·
   rw[h];rfl
 rw[em] at h4
 obtain⟨q,e4,-,-,-,h7⟩:=qlU (l:=x.any) (l2:=x.last) (l3:=x.lage) (got:=sc.1) ok.link (by omega)
 rw[f2] at e4
 obtain rfl:=Option.some.inj e4
 have h8:=h7 (by omega) h1
 simp only[Prod.mk.injEq] at h8
 obtain⟨k1,-,k2,k3,k4⟩:=h8
 have er:re=reF x i.bytesf:=by
  rw[f3]
  unfold reF
  by_cases c:x.rest++i.bytesf=[]
  ·
   rw[if_pos c,c];simp
  ·
   rw[if_neg c]
   have lp:0<(x.rest++i.bytesf).length:=List.length_pos_iff.2 c
   have e5:(x.rest++i.bytesf).getD ((x.rest++i.bytesf).length-1) 0=126:=by
    rcases g2 with h|h
    ·
     rw[h,List.append_nil] at c ⊢
     rcases rs with h'|h'
     ·
      exact absurd h' c
     ·
      rw[h'];rfl
    ·
     by_cases d:i.bytesf=[]
     ·
      rw[d] at h;simp at h
     ·
      have:=List.length_pos_iff.2 d
      rw[List.length_append,List.getD_eq_getElem?_getD,List.getElem?_append_right (by omega),show x.rest.length+i.bytesf.length-1-x.rest.length=i.bytesf.length-1 by omega,← List.getD_eq_getElem?_getD];exact h
   rw[h6 e5,if_pos (by omega)]
   have e6:(((x.rest++i.bytesf).length:Int)-1).toNat=(x.rest++i.bytesf).length-1:=by omega
   rw[e6,List.drop_eq_getElem_cons (by omega),show (x.rest++i.bytesf).length-1+1=(x.rest++i.bytesf).length by omega,List.drop_length]
   rw[List.getD_eq_getElem?_getD,List.getElem?_eq_getElem (by omega)] at e5
   exact congrArg (fun y=>[y]) e5
 rw[e]
 dsimp only at e2 f4
 rw[e2]
 rw[← h4]
 unfold hF
 dsimp only
 rw[← k1,← k2,← k3,← er]
 have k5:(if tk=[] then min (x.lage+1) 1048576 else 0)=lg:=by rw[k4,k1]
 rw[k5,← f4]
theorem gd_app {l k:List Msg}{a b:List UInt8}(h:Gd l a)(g:Gd k b)(hl:a.length≤3000∧b.length≤3000):Gd (l++k) (a++b)∧ms (a++b)=ms a++ms b:=by
 obtain⟨-,h2,h3,h4⟩:=h
 obtain⟨-,g2,g3,g4⟩:=g
 have fr:∀ s:Bool,∃ s',qkt (s,false,[]) a=(s',false,[]):=fun s=>⟨_,Prod.ext rfl (h3 s).1⟩
 have mg:∀ s,msgs (s,false,[]) (a++b)=ms a++ms b:=fun s=>by
  obtain⟨s',e⟩:=fr s
  rw[qkv,(h3 s).2,e,(g3 s').2]
 refine⟨⟨by rw[List.length_append];omega,?_,fun s=>⟨?_,by rw[mg,mg]⟩,fun x hx=>?_⟩,mg true⟩
 ·
  by_cases d:b=[]
  ·
   rw[d,List.append_nil];exact h2
  ·
   have:=List.length_pos_iff.2 d
   refine .inr ?_
   rw[List.length_append,List.getD_eq_getElem?_getD,List.getElem?_append_right (by omega),show a.length+b.length-1-a.length=b.length-1 by omega,← List.getD_eq_getElem?_getD]
   exact g2.resolve_left d
 ·
  obtain⟨s',e⟩:=fr s
  rw[qku,e,(g3 s').1]
 ·
  rw[mg] at hx
  rcases List.mem_append.1 hx with hx|hx
  ·
   obtain⟨y,hy,e⟩:=h4 x hx
   exact⟨y,List.mem_append_left _ hy,e⟩
  ·
   obtain⟨y,hy,e⟩:=g4 x hx
   exact⟨y,List.mem_append_right _ hy,e⟩
end Go.Proofs.YtcdppfnjidlknaaGreatDoor
namespace Go.Proofs.YtcdppfnjidlknaaGreatDoor
open Go Go.Eng Go.Proofs Go.Wp
theorem qzR {s:SiteT}{x y:LocT}{i:Inp}{lights:List UInt8}{l:List Msg}(sg:SG s)(ok:LOk s x)(rs:Rs x.rest)(gd:Gd l i.bytesf)(w:Went s x i y lights):y.age=(if (hF s x (ms i.bytesf) (reF x i.bytesf)).1=true then 0 else min (x.age+1) 1048576)∧lnk y=lnk (hF s x (ms i.bytesf) (reF x i.bytesf)).2:=by
 obtain⟨b,h,e,e2,e3⟩:=w.age
 rw[q8k sg ok rs gd] at e
 cases e
 exact⟨e2,e3⟩
theorem ran_rs {s:SiteT}{x y:LocT}{i:Inp}{lights:List UInt8}{l:List Msg}(sg:SG s)(ok:LOk s x)(rs:Rs x.rest)(gd:Gd l i.bytesf)(ran:Ran s x i y lights):Rs y.rest:=by
 by_cases c:i.lostf=true
 ·
  have e:=(ran.lost c).link
  have e2:y.rest=[]:=congrArg (·.2.2.2) e
  rw[e2];exact .inl rfl
 ·
  have e:=(qzR sg ok rs gd (ran.went (by simpa using c))).2
  have e2:y.rest=reF x i.bytesf:=congrArg (·.2.2.2) e
  rw[e2];exact reF_rs _ _
theorem xs_rs {s:SiteT}{x:LocT}{l:List Inp}(sg:SG s)(ok:LOk s x)(h:∀ i∈l,InOk i)(r0:x.rest=[])(gd:∀ k:Nat,k<l.length→∃ m,Gd m (l.getD k (dflt 24)).bytesf):∀ k:Nat,k≤l.length→Rs (XS s x l k).rest
 |0,_=>.inl r0
 |k+1,hk=>by
  obtain⟨m,g⟩:=gd k (by omega)
  exact ran_rs sg (q5C sg ok h k (by omega)) (xs_rs sg ok h r0 gd k (by omega)) g (q8f sg ok h (by omega))
theorem gvn_mem {l:List Inp}{m:List (List Msg)}{z:List Inp}(h:Gvn l m l.length z)(t:∀ i∈l,InT i):∀ i∈z,InT i:=by
 obtain⟨h1,h2,-⟩:=h
 intro i hi
 obtain⟨k,hk,e⟩:=List.getElem_of_mem hi
 obtain⟨e1,e2⟩:=h2 k (by omega)
 rw[qbK hk,e] at e1 e2
 have q:=t _ (qb6 (l:=l) (n:=(k:Int)) (d:=dflt 24) (by omega))
 rw[Int.toNat_natCast] at q
 have b:=e2.1
 rw[e1]
 exact⟨q.1,by dsimp only;omega,q.2.2⟩
theorem gvn_gd {l:List Inp}{m:List (List Msg)}{z:List Inp}(h:Gvn l m l.length z):∀ k:Nat,k<z.length→∃ q,Gd q (z.getD k (dflt 24)).bytesf:=fun k hk=>⟨_,(h.2.1 k (by have:=h.1;omega)).2⟩
end Go.Proofs.YtcdppfnjidlknaaGreatDoor
namespace Go.Eng
open Go
def Rl {α β:Type}(P:α→β→Prop)(o:Option α)(o':Option β):Prop:=∀ r,o=some r→∃ r',o'=some r'∧P r r'
section
variable {α β γ δ ε ζ η θ α' : Type} {P : β → γ → Prop}
theorem qaD {a:β}{b:γ}(h:P a b):Rl P (some a) (some b):=fun r e=>by cases e;exact⟨b,rfl,h⟩
theorem qa2 {b:Bool}{q:Option β}{q':Option γ}(h:Rl P q q'):Rl P (req b q) (req b q'):=by
 cases b
 ·
  intro r e;cases e
 ·
  exact h
theorem qcq {c:Bool}{x y:Option β}{x' y':Option γ}(h:Rl P x x')(g:Rl P y y'):Rl P (bif c then x else y) (bif c then x' else y'):=by
 cases c
 ·
  exact g
 ·
  exact h
theorem qan {e:α}{k:α→Option β}{k':α→Option γ}(h:∀ x,Rl P (k x) (k' x)):Rl P (DOps.ev.letv e k) (DOps.ev.letv e k'):=h e
theorem qa5 {m:Option α}{m':Option α'}{k:α→Option β}{k':α'→Option γ}{R:α→α'→Prop}(g:Rl R m m')(h:∀ x y,R x y→Rl P (k x) (k' y)):Rl P (DOps.ev.bind m k) (DOps.ev.bind m' k'):=by
 intro r e
 cases hm:m with
 |none=>subst hm;cases e
 |some a =>
  obtain⟨b,e',q⟩:=g a hm
  subst hm;subst e'
  exact h a b q r e
theorem qas {m:Option α}{k:α→Option β}{k':α→Option γ}(h:∀ x,Rl P (k x) (k' x)):Rl P (DOps.ev.bind m k) (DOps.ev.bind m k'):=qa5 (R:=Eq) (fun r e=>⟨r,e,rfl⟩) fun x y e=>by subst e;exact h x
theorem qal {m:Option (α×δ)}{k:α×δ→Option β}{k':α×δ→Option γ}(h:∀ x y,Rl P (k (x,y)) (k' (x,y))):Rl P (DOps.ev.bind m k) (DOps.ev.bind m k'):=qas fun x=>h x.1 x.2
theorem qgs {m:Option (α×δ×ε×ζ)}{k:α×δ×ε×ζ→Option β}{k':α×δ×ε×ζ→Option γ}(h:∀ x y z w,Rl P (k (x,y,z,w)) (k' (x,y,z,w))):Rl P (DOps.ev.bind m k) (DOps.ev.bind m k'):=qas fun x=>h x.1 x.2.1 x.2.2.1 x.2.2.2
theorem qnl {m:Option (α×δ×ε×ζ×η)}{k:α×δ×ε×ζ×η→Option β}{k':α×δ×ε×ζ×η→Option γ}(h:∀ x y z w u,Rl P (k (x,y,z,w,u)) (k' (x,y,z,w,u))):Rl P (DOps.ev.bind m k) (DOps.ev.bind m k'):=qas fun x=>h x.1 x.2.1 x.2.2.1 x.2.2.2.1 x.2.2.2.2
theorem qhZ {k:(α→Option β)→Option β}{k':(α→Option γ)→Option γ}{J:α→Option β}{J':α→Option γ}(h:Rl P (k J) (k' J')):Rl P (DOps.ev.join k J) (DOps.ev.join k' J'):=h
theorem qru {a:Option β} {a':Option γ} {l:List (Option β)} {l':List (Option γ)} {t:Tr} (h:Rl P a a') (ht:t.fst=0:=by rfl):Rl P (sm DOps.ev (a::l) t) (sm DOps.ev (a'::l') t):=by
 rw[smE ht,smE ht];exact h
theorem qdj {n:Int}{k:Int→Option β}{k':Int→Option γ}(h:∀ x,Rl P (k x) (k' x)):Rl P (inc DOps.ev n k) (inc DOps.ev n k'):=h _
theorem q4X {z:List α}{n:Int}{d:α}{k:α→Option β}{k':α→Option γ}(h:∀ x,Rl P (k x) (k' x)):Rl P (ix DOps.ev z n d k) (ix DOps.ev z n d k'):=qa2 (qa2 (h _))
theorem qdF {n:Int}{l:Nat}{q:Option β}{q':Option γ}(h:Rl P q q'):Rl P (rb n l q) (rb n l q'):=qa2 (qa2 h)
theorem Rl_rm {n l:Nat}{q:Option β}{q':Option γ}(h:Rl P q q'):Rl P (rm n l q) (rm n l q'):=qa2 h
theorem qa0 {n l:Nat}{q:Option β}{q':Option γ}(h:Rl P q q'):Rl P (rs n l q) (rs n l q'):=qa2 h
theorem q7h {V V':Type}{F:(V→Option β)→V→Option β}{F':(V'→Option γ)→V'→Option γ}(p:V→V')(h:∀ r r',(∀ w,Rl P (r w) (r' (p w)))→∀ w,Rl P (F r w) (F' r' (p w))):∀ n v,Rl P (fixN F n v) (fixN F' n (p v))
 |0,v=>fun r e=>by cases e
 |n+1,v=>h _ _ (q7h p h n) v
theorem qoE {V V':Type}{v:V}{v':V'}{F:(V→Option β)→V→Option β}{F':(V'→Option γ)→V'→Option γ}(p:V→V')(e:v'=p v)(h:∀ r r',(∀ w,Rl P (r w) (r' (p w)))→∀ w,Rl P (F r w) (F' r' (p w))):Rl P (DOps.ev.fix v F) (DOps.ev.fix v' F'):=by
 subst e;exact q7h p h NN v
end
end Go.Eng
namespace Go.Proofs.YtcdppfnjidlknaaGreatDoor
open Go Go.Eng Go.Proofs
def un (p:Bool→Bool)(q r:Int→Int)(w:List UInt8→List UInt8)(x:LocT):LocT:={x with any:=p x.any,last:=q x.last,lage:=r x.lage,rest:=w x.rest}
def bn (d:List UInt8)(i:Inp):Inp:={i with bytesf:=d}
def tn (p:Bool→Bool)(q r:Int→Int)(w:List UInt8→List UInt8)(d:List UInt8)(t:TickT):TickT:={t with loc:=un p q r w t.loc,inp:=bn d t.inp}
section
variable {p : Bool → Bool} {q r : Int → Int} {w : List UInt8 → List UInt8} {d : List UInt8}
abbrev cn (p:Bool→Bool)(q r:Int→Int)(w:List UInt8→List UInt8)(d:List UInt8):SiteT×List UInt8×List SeenT×Int×Bool×Int×Int×Bool×Int×Int×Bool×Int×Int×List UInt8×Int×Int×List Int×Int×List Pls×List Lkd×List Gpd×Int×Int×Int×Int×Inp×List Put×List Pls×List UInt8×List UInt8×List UInt8×List Int×List Int×List Int→SiteT×List UInt8×List SeenT×Int×Bool×Int×Int×Bool×Int×Int×Bool×Int×Int×List UInt8×Int×Int×List Int×Int×List Pls×List Lkd×List Gpd×Int×Int×Int×Int×Inp×List Put×List Pls×List UInt8×List UInt8×List UInt8×List Int×List Int×List Int:=fun(a0,a1,a2,a3,a4,a5,a6,a7,a8,a9,a10,a11,a12,a13,a14,a15,a16,a17,a18,a19,a20,a21,a22,a23,a24,a25,a26,a27,a28,a29,a30,a31,a32,a33)=>(a0,a1,a2,a3,a4,a5,a6,a7,a8,a9,p a10,q a11,r a12,w a13,a14,a15,a16,a17,a18,a19,a20,a21,a22,a23,a24,bn d a25,a26,a27,a28,a29,a30,a31,a32,a33)
theorem qfB {t:SiteT}{t2:LocT}{t3:Inp}{t4:List Put}{t5:List Pls}{t6:List UInt8}{t7:List UInt8}{t8:List UInt8}:Rl (fun a b=>b=(a.1,a.2.1,un p q r w a.2.2.1,bn d a.2.2.2.1,a.2.2.2.2)) (qck t t2 t3 t4 t5 t6 t7 t8) (qck t (un p q r w t2) (bn d t3) t4 t5 t6 t7 t8):=by
 unfold qck qhb
 exact qas fun _=>qaD rfl
theorem qxr {t:SiteT}{t2:LocT}{t3:Inp}{t4:List Put}{t5:List Pls}{t6:List UInt8}{t7:List UInt8}{t8:List UInt8}:Rl (fun a b=>b=(a.1,un p q r w a.2.1,bn d a.2.2.1,a.2.2.2)) (qeb t t2 t3 t4 t5 t6 t7 t8) (qeb t (un p q r w t2) (bn d t3) t4 t5 t6 t7 t8):=by
 unfold qeb qhs
 exact qgs fun _ _ _ _=>qa2 (qan fun _=>qcq (qas fun _=>qcq (qaD rfl) (qal fun _ _=>qaD rfl)) (qal fun _ _=>qaD rfl))
theorem q0M {t:TickT}:Rl (Eq) (qgV t) (qgV (tn p q r w d t)):=by
 unfold qgV qjL
 exact qoE (fun(_,_,x2,n3,z4,n5,n6,_)=>((),(),tn p q r w d x2,n3,z4,n5,n6,())) rfl fun _ _ hr1 (_,_,_,_,_,_,_,_)=>qcq (q4X fun _=>qoE (fun(_,((x9,_),_),x10,n11,n12,b13,z14,n15,n16,z17,n18,n19,_)=>((),((x9,()),()),tn p q r w d x10,n11,n12,b13,z14,n15,n16,z17,n18,n19,())) rfl fun _ _ hr8 (_,((_,_),_),_,_,_,_,_,_,_,_,_,_,_)=>qcq (q4X fun _=>q4X fun _=>qal fun _ _=>qdj fun _=>hr8 _) (qcq (qa2 (qan fun _=>qan fun _=>qdj fun _=>hr1 _)) (qdj fun _=>hr1 _))) (qaD rfl)
theorem qsj {t:SiteT}{t2:LocT}{t3:Inp}{t4:List Put}{t5:List Pls}{t6:List UInt8}{t7:List UInt8}{t8:List UInt8}:Rl (fun a b=>b=(a.1,un p q r w a.2.1,bn d a.2.2.1,a.2.2.2)) (qfW t t2 t3 t4 t5 t6 t7 t8) (qfW t (un p q r w t2) (bn d t3) t4 t5 t6 t7 t8):=by
 unfold qfW qnP
 exact qas fun _=>qas fun _=>qas fun _=>qa0 (qa0 (qoE (fun((z5,z6,_),((x7,z8,z9,n10,b11,n12,n13,b14,n15,n16,b17,n18,n19,z20,n21,n22,z23,n24,z25,n26,n27,n28,z29,z30,z31,n32,x33,z34,z35,z36,z37,z38,_),_),n39,n40,n41,_)=>((z5,z6,()),((x7,z8,z9,n10,b11,n12,n13,b14,n15,n16,p b17,q n18,r n19,w z20,n21,n22,z23,n24,z25,n26,n27,n28,z29,z30,z31,n32,bn d x33,z34,z35,z36,z37,z38,()),()),n39,n40,n41,())) rfl fun _ _ hr4 ((_,_,_),((_,_,_,_,_,_,_,_,_,_,_,_,_,_,_,_,_,_,_,_,_,_,_,_,_,_,_,_,_,_,_,_,_),_),_,_,_,_)=>qcq (qdF (qa2 (qa2 (qan fun _=>qan fun _=>qal fun _ _=>qdF (qa2 (qan fun _=>qdF (qa2 (qdF (qa2 (qal fun _ _=>qdF (qa2 (qan fun _=>qdF (qa2 (qcq (qa2 (qan fun _=>qan fun _=>qdj fun _=>qa0 (qa0 (hr4 _)))) (qdj fun _=>qa0 (qa0 (hr4 _))))))))))))))))) (qal fun _ _=>qal fun _ _=>qcq (qal fun _ _=>qaD rfl) (qal fun _ _=>qaD rfl))))
theorem qme {t:SiteT}{t2:LocT}{t3:Inp}{t4:List Put}{t5:List Pls}{t6:List UInt8}{t7:List UInt8}{t8:List UInt8}:Rl (fun a b=>b=(a.1,un p q r w a.2.1,bn d a.2.2.1,a.2.2.2)) (qcl t t2 t3 t4 t5 t6 t7 t8) (qcl t (un p q r w t2) (bn d t3) t4 t5 t6 t7 t8):=by
 unfold qcl qbU
 exact qoE (fun((z2,_),((x3,x4,x5,z6,z7,z8,z9,z10,_),(b11,b12,b13,b14,_),(n15,n16,z17,_),_),z18,n19,n20,_)=>((z2,()),((x3,un p q r w x4,bn d x5,z6,z7,z8,z9,z10,()),(b11,b12,b13,b14,()),(n15,n16,z17,()),()),z18,n19,n20,())) rfl fun _ _ hr1 ((_,_),((_,_,_,_,_,_,_,_,_),(_,_,_,_,_),(_,_,_,_),_),_,_,_,_)=>qcq (q4X fun _=>Rl_rm (qan fun _=>qdj fun _=>qa0 (hr1 _))) (qal fun _ _=>qcq (qas fun _=>qal fun _ _=>qgs fun _ _ _ _=>qal fun _ _=>qhZ (qru (qas fun _=>qru (qaD rfl)))) (qal fun _ _=>qgs fun _ _ _ _=>qal fun _ _=>qhZ (qru (qas fun _=>qru (qaD rfl)))))
theorem qsk {t:SiteT}{t2:LocT}{t3:Inp}{t4:List Put}{t5:List Pls}{t6:List UInt8}{t7:List UInt8}{t8:List UInt8}{k:Int}{k2:Int}{k3:List Plan}:Rl (fun a b=>b=(a.1,un p q r w a.2.1,bn d a.2.2.1,a.2.2.2)) (qfX t t2 t3 t4 t5 t6 t7 t8 k k2 k3) (qfX t (un p q r w t2) (bn d t3) t4 t5 t6 t7 t8 k k2 k3):=by
 unfold qfX qnR
 exact qcq (qa5 qfB fun(_,_,_,_,_,_,_,_,_) _ e=>by subst e;exact qaD rfl) (qcq (qhZ (qa5 q0M fun _ _ e=>by subst e;exact qgs fun _ _ _ _=>qaD rfl)) (qcq (qa2 (qan fun _=>qal fun _ _=>qal fun _ _=>qal fun _ _=>qaD rfl)) (qal fun _ _=>qal fun _ _=>qaD rfl)))
theorem qoF {t:SiteT}{t2:LocT}{t3:Inp}{t4:List Put}{t5:List Pls}{t6:List UInt8}{t7:List UInt8}{t8:List UInt8}:Rl (fun a b=>b=(a.1,a.2.1,bn d a.2.2.1,a.2.2.2)) (qd7 t t2 t3 t4 t5 t6 t7 t8) (qd7 t (un p q r w t2) (bn d t3) t4 t5 t6 t7 t8):=by
 unfold qd7 qcZ
 exact qan fun _=>qan fun _=>qan fun _=>qan fun _=>qcq (qhZ (qru (qal fun _ _=>qas fun _=>qa5 (qfB (p:=fun x=>x) (q:=fun x=>x) (r:=fun x=>x) (w:=fun x=>x)) fun(_,_,_,_,_,_,_,_,_) _ e=>by subst e;exact qnl fun _ _ _ _ _=>qhZ (qru (qas fun _=>qru (qaD rfl)))))) (qhZ (qru (qal fun _ _=>qas fun _=>qa5 (qfB (p:=fun x=>x) (q:=fun x=>x) (r:=fun x=>x) (w:=fun x=>x)) fun(_,_,_,_,_,_,_,_,_) _ e=>by subst e;exact qnl fun _ _ _ _ _=>qhZ (qru (qas fun _=>qru (qaD rfl))))))
theorem qmf {t:SiteT}{t2:LocT}{t3:Inp}{t4:List Put}{t5:List Pls}{t6:List UInt8}{t7:List UInt8}{t8:List UInt8}:Rl (fun a b=>b=cn p q r w d a) (qda t t2 t3 t4 t5 t6 t7 t8) (qda t (un p q r w t2) (bn d t3) t4 t5 t6 t7 t8):=by
 unfold qda qhx
 exact qas fun _=>qas fun _=>qas fun _=>qa0 (qa0 (qa0 (qoE (fun((z5,z6,z7,_),((x8,z9,z10,n11,b12,n13,n14,b15,n16,n17,b18,n19,n20,z21,n22,n23,z24,n25,z26,z27,z28,n29,n30,n31,n32,x33,z34,z35,z36,z37,z38,_),_),n39,n40,_)=>((z5,z6,z7,()),((x8,z9,z10,n11,b12,n13,n14,b15,n16,n17,p b18,q n19,r n20,w z21,n22,n23,z24,n25,z26,z27,z28,n29,n30,n31,n32,bn d x33,z34,z35,z36,z37,z38,()),()),n39,n40,())) rfl fun _ _ hr4 ((_,_,_,_),((_,_,_,_,_,_,_,_,_,_,_,_,_,_,_,_,_,_,_,_,_,_,_,_,_,_,_,_,_,_,_,_),_),_,_,_)=>qcq (qal fun _ _=>qcq (qdj fun _=>qa0 (qa0 (qa0 (hr4 _)))) (qa0 (qa0 (qa0 (qoE (fun((z44,z45,z46,_),((x47,z48,z49,n50,b51,n52,n53,b54,n55,n56,b57,n58,n59,z60,n61,n62,z63,n64,z65,z66,z67,n68,n69,n70,n71,x72,z73,z74,z75,z76,z77,_),_),n78,b79,n80,n81,z82,n83,n84,_)=>((z44,z45,z46,()),((x47,z48,z49,n50,b51,n52,n53,b54,n55,n56,p b57,q n58,r n59,w z60,n61,n62,z63,n64,z65,z66,z67,n68,n69,n70,n71,bn d x72,z73,z74,z75,z76,z77,()),()),n78,b79,n80,n81,z82,n83,n84,())) rfl fun _ _ hr43 ((_,_,_,_),((_,_,_,_,_,_,_,_,_,_,_,_,_,_,_,_,_,_,_,_,_,_,_,_,_,_,_,_,_,_,_,_),_),_,_,_,_,_,_,_,_)=>qcq (q4X fun _=>qa2 (qan fun _=>qcq (q4X fun _=>qcq (qdF (qa2 (qan fun _=>qas fun _=>qdF (qa2 (qan fun _=>qdj fun _=>qa0 (qa0 (qa0 (hr43 _)))))))) (qdj fun _=>qa0 (qa0 (qa0 (hr43 _))))) (qdj fun _=>qa0 (qa0 (qa0 (hr43 _)))))) (qcq (qdF (qa2 (qan fun _=>qas fun _=>qdF (qa2 (qan fun _=>qdF (qa2 (qan fun _=>qas fun _=>qdF (qa2 (qan fun _=>qdj fun _=>qa0 (qa0 (qa0 (hr4 _)))))))))))) (qdF (qa2 (qan fun _=>qas fun _=>qdF (qa2 (qan fun _=>qdj fun _=>qa0 (qa0 (qa0 (hr4 _)))))))))))))) (qa0 (qa0 (qa0 (qaD rfl)))))))
theorem qoG {greens:List Int}{busy:List Int}{came:List Int}{t:SiteT}{t2:List UInt8}{t3:List SeenT}{t4:Int}{t5:Bool}{t6:Int}{t7:Int}{t8:Bool}{t9:Int}{t10:Int}{t11:Bool}{t12:Int}{t13:Int}{t14:List UInt8}{t15:Int}{t16:Int}{t17:List Int}{t18:Int}{t19:List Pls}{t20:List Lkd}{t21:List Gpd}{t22:Int}{t23:Int}{t24:Int}{t25:Int}{t26:Inp}{t27:List Put}{t28:List Pls}{t29:List UInt8}{t30:List UInt8}{t31:List UInt8}:Rl (fun a b=>b=cn p q r w d a) (qeQ greens busy came t t2 t3 t4 t5 t6 t7 t8 t9 t10 t11 t12 t13 t14 t15 t16 t17 t18 t19 t20 t21 t22 t23 t24 t25 t26 t27 t28 t29 t30 t31) (qeQ greens busy came t t2 t3 t4 t5 t6 t7 t8 t9 t10 (p t11) (q t12) (r t13) (w t14) t15 t16 t17 t18 t19 t20 t21 t22 t23 t24 t25 (bn d t26) t27 t28 t29 t30 t31):=by
 unfold qeQ qjS
 exact qal fun _ _=>qdj fun _=>qa2 (qan fun _=>qcq (qa0 (qa0 (qa0 (qaD rfl)))) (qa0 (qa0 (qa0 (qoE (fun((z6,z7,z8,z9,_),((x10,z11,z12,n13,b14,n15,n16,b17,n18,n19,b20,n21,n22,z23,n24,n25,z26,n27,z28,z29,z30,n31,n32,n33,n34,x35,z36,z37,z38,z39,z40,_),(n41,n42,n43,_),_),n44,n45,n46,_)=>((z6,z7,z8,z9,()),((x10,z11,z12,n13,b14,n15,n16,b17,n18,n19,p b20,q n21,r n22,w z23,n24,n25,z26,n27,z28,z29,z30,n31,n32,n33,n34,bn d x35,z36,z37,z38,z39,z40,()),(n41,n42,n43,()),()),n44,n45,n46,())) rfl fun _ _ hr5 ((_,_,_,_,_),((_,_,_,_,_,_,_,_,_,_,_,_,_,_,_,_,_,_,_,_,_,_,_,_,_,_,_,_,_,_,_,_),(_,_,_,_),_),_,_,_,_)=>qcq (qdF (qa2 (qan fun _=>qdF (qa2 (qan fun _=>qdF (qa2 (qan fun _=>qan fun _=>qan fun _=>qdF (qa2 (qan fun _=>qan fun _=>qas fun _=>qas fun _=>qal fun _ _=>Rl_rm (qan fun _=>qdF (qa2 (qan fun _=>qdF (qa2 (qan fun _=>qdF (qa2 (qan fun _=>qdj fun _=>qa0 (qa0 (qa0 (qa0 (hr5 _)))))))))))))))))))) (qal fun _ _=>qal fun _ _=>qa0 (qa0 (qa0 (qaD rfl)))))))))
theorem q4Y {t:SiteT}{t2:LocT}{t3:Inp}{t4:List Put}{t5:List Pls}{t6:List UInt8}{t7:List UInt8}{t8:List UInt8}{y:LocT}{j:Inp}(hh:Rl (fun a b=>b=(a.1,a.2.1,un p q r w a.2.2.1,bn d a.2.2.2.1,a.2.2.2.2)) (qbG t t2 t3 t4 t5 t6 t7 t8) (qbG t y j t4 t5 t6 t7 t8)):Rl (fun a b=>(b.2.1=un p q r w a.2.1∨b.2.1=a.2.1)∧b.2.2.2.2.2.2.1=a.2.2.2.2.2.2.1) (qfY t t2 t3 t4 t5 t6 t7 t8) (qfY t y j t4 t5 t6 t7 t8):=by
 unfold qfY qnT
 exact qa5 hh fun(_,_,_,_,_,_,_,_,_) _ e=>by subst e;exact qcq (qa5 qxr fun(_,_,_,_,_,_,_,_) _ e=>by subst e;exact qcq (qa5 qoF fun(_,_,_,_,_,_,_,_) _ e=>by subst e;exact qaD ⟨by first|exact .inr rfl|exact .inl rfl,rfl⟩) (qal fun _ _=>qa5 qsj fun(_,_,_,_,_,_,_,_) _ e=>by subst e;exact qa5 qme fun(_,_,_,_,_,_,_,_,_,_,_,_,_,_,_) _ e=>by subst e;exact qgs fun _ _ _ _=>qa5 qsk fun(_,_,_,_,_,_,_,_) _ e=>by subst e;exact qal fun _ _=>qnl fun _ _ _ _ _=>qa5 qmf fun(_,_,_,_,_,_,_,_,_,_,_,_,_,_,_,_,_,_,_,_,_,_,_,_,_,_,_,_,_,_,_,_,_,_) _ e=>by subst e;exact qa0 (qa0 (qa0 (qa5 qoG fun(_,_,_,_,_,_,_,_,_,_,_,_,_,_,_,_,_,_,_,_,_,_,_,_,_,_,_,_,_,_,_,_,_,_) _ e=>by subst e;exact qas fun _=>qaD ⟨by first|exact .inr rfl|exact .inl rfl,rfl⟩))))) (qcq (qa5 qoF fun(_,_,_,_,_,_,_,_) _ e=>by subst e;exact qaD ⟨by first|exact .inr rfl|exact .inl rfl,rfl⟩) (qal fun _ _=>qa5 qsj fun(_,_,_,_,_,_,_,_) _ e=>by subst e;exact qa5 qme fun(_,_,_,_,_,_,_,_,_,_,_,_,_,_,_) _ e=>by subst e;exact qgs fun _ _ _ _=>qa5 qsk fun(_,_,_,_,_,_,_,_) _ e=>by subst e;exact qal fun _ _=>qnl fun _ _ _ _ _=>qa5 qmf fun(_,_,_,_,_,_,_,_,_,_,_,_,_,_,_,_,_,_,_,_,_,_,_,_,_,_,_,_,_,_,_,_,_,_) _ e=>by subst e;exact qa0 (qa0 (qa0 (qa5 qoG fun(_,_,_,_,_,_,_,_,_,_,_,_,_,_,_,_,_,_,_,_,_,_,_,_,_,_,_,_,_,_,_,_,_,_) _ e=>by subst e;exact qas fun _=>qaD ⟨by first|exact .inr rfl|exact .inl rfl,rfl⟩)))))
end
end Go.Proofs.YtcdppfnjidlknaaGreatDoor
namespace Go.Proofs.YtcdppfnjidlknaaGreatDoor
open Go Go.Eng Go.Proofs Go.Wp
theorem stp_rl {s:SiteT} {x y x':LocT} {i:Inp} {b:Bool} {d:List UInt8} {p:Bool→Bool} {q r:Int→Int} {w:List UInt8→List UInt8} (sg:SG s) (ok:LOk s x) (io:InOk i) (hx:qbG s x i [] [] [] [] []=some (b,s,x',i,[],[],[],[],[])) (hy:qbG s y (bn d i) [] [] [] [] []=some (b,s,un p q r w x',bn d i,[],[],[],[],[])) :
  ((stp s y (bn d i)).1=un p q r w (stp s x i).1∨(stp s y (bn d i)).1=(stp s x i).1)∧(stp s y (bn d i)).2=(stp s x i).2:=by
 obtain⟨v,e,-,-⟩:=qqY sg ok io rfl rfl rfl rfl rfl
 obtain⟨v',e',h1,h2⟩:=q4Y (p:=p) (q:=q) (r:=r) (w:=w) (d:=d) (fun a ha=>by
  rw[hx] at ha
  cases ha
  exact⟨_,hy,rfl⟩) v e
 unfold stp
 rw[e,e']
 exact⟨h1,h2⟩
theorem two_runs {s:SiteT} {d:List UInt8} {z n:List Inp} {r r':List (List UInt8)×List UInt8×Int} (h:(∃ e x0,e≠0∧qb3 s d=some (e,x0)∧r=([],[],e))∨Run s d z r) (g:(∃ e x0,e≠0∧qb3 s d=some (e,x0)∧r'=([],[],e))∨Run s d n r') (len:z.length=n.length)
  (q:SG s→∀ x,LNew s x→∀ j:Nat,j<z.length→LS s x n j=LS s x z j∧(XS s x n (j+1)).mode=(XS s x z (j+1)).mode):r=r':=by
 rcases h with ⟨e,x0,h1,h2,rfl⟩|h
 ·
  rcases g with ⟨e',y0,g1,g2,rfl⟩|g
  ·
   rw[h2] at g2;cases g2;rfl
  ·
   obtain⟨y0,g2,-,-⟩:=g.new
   rw[h2] at g2;cases g2;exact absurd rfl h1
 ·
  obtain⟨x0,h2,nw,rfl⟩:=h.new
  rcases g with ⟨e',y0,g1,g2,rfl⟩|g
  ·
   rw[h2] at g2;cases g2;exact absurd rfl g1
  ·
   obtain⟨y0,g2,-,rfl⟩:=g.new
   rw[h2] at g2;cases g2
   rw[← len]
   have a1:(List.range z.length).map (LS s x0 z)=(List.range z.length).map (LS s x0 n):=List.map_congr_left fun j hj=>((q h.sg x0 nw j (List.mem_range.1 hj)).1).symm
   have a2:(List.range z.length).map (MS s x0 z)=(List.range z.length).map (MS s x0 n):=List.map_congr_left fun j hj=>by
    unfold MS
    rw[(q h.sg x0 nw j (List.mem_range.1 hj)).2]
   rw[a1,a2]
theorem run_len {s:SiteT}{d:List UInt8}{z:List Inp}{r:List (List UInt8)×List UInt8×Int}(h:(∃ e x0,e≠0∧qb3 s d=some (e,x0)∧r=([],[],e))∨Run s d z r)(l:z.length≤200):r.1.length≤200:=by
 rcases h with ⟨e,x0,h1,h2,rfl⟩|h
 ·
  simp
 ·
  obtain⟨x0,-,-,rfl⟩:=h.new
  dsimp only;rw[rng_len];exact l
end Go.Proofs.YtcdppfnjidlknaaGreatDoor
namespace Go.Proofs.YtcdppfnjidlknaaGreatDoor
open Go Go.Eng Go.Proofs Go.Wp
def Rpt (z:List Inp)(k:Nat)(y:Inp):Prop:=y=z.getD k (dflt 24)∨∃ a:Nat,a≤k∧(∀ j:Nat,a≤j→j<k∨j=a→(z.getD j (dflt 24)).lostf=false)∧(z.getD a (dflt 24)).bytesf.length≤3000∧(z.getD k (dflt 24)).bytesf.length≤3000∧y=bn ((z.getD k (dflt 24)).bytesf++(z.getD a (dflt 24)).bytesf) (z.getD k (dflt 24))
def Sn (x:LocT)(b:List UInt8):Prop:=(∀ m∈ms b,x.any=true∧(m.seq.toNat:Int)≤x.last)∧(b≠[]→x.rest≠[])
theorem q8l {s:SiteT}{x y:LocT}{i:Inp}{lights b:List UInt8}{l:List Msg}(sg:SG s)(ok:LOk s x)(rs:Rs x.rest)(gd:Gd l i.bytesf)(ran:Ran s x i y lights)(nl:i.lostf=false)(h:Sn x b∨b=i.bytesf):Sn y b:=by
  have e:=(qzR sg ok rs gd (ran.went nl)).2
  have e1:y.any=(lfo (x.any,x.last,[]) (ms i.bytesf)).1:=congrArg (·.1) e
  have e2:y.last=(lfo (x.any,x.last,[]) (ms i.bytesf)).2.1:=congrArg (·.2.1) e
  have e3:y.rest=reF x i.bytesf:=congrArg (·.2.2.2) e
  refine⟨fun m hm=>?_,fun hb=>?_⟩
  · rw[e1,e2]
    rcases h with h|h
    · exact qnW (h.1 m hm)
    · subst h;exact q2o hm
  · rw[e3]
    unfold reF
    rw[if_neg]
    · simp
    · intro c
      obtain⟨c1,c2⟩:=List.append_eq_nil_iff.1 c
      rcases h with h|h
      · exact h.2 hb c1
      · exact hb (h.trans c2)
theorem hist {s:SiteT}{x:LocT}{z:List Inp}(sg:SG s)(nw:LNew s x)(iz:∀ i∈z,InOk i)(gd:∀ k:Nat,k<z.length→∃ m,Gd m (z.getD k (dflt 24)).bytesf){a:Nat}:∀ n:Nat,a+1+n≤z.length→(∀ j:Nat,a≤j→j<a+1+n→(z.getD j (dflt 24)).lostf=false)→Sn (XS s x z (a+1+n)) (z.getD a (dflt 24)).bytesf
  |0,h,g=>by
    obtain⟨l,hl⟩:=gd a (by omega)
    exact q8l sg (q5C sg nw.ok iz a (by omega)) (xs_rs sg nw.ok iz nw.link.2.2.2 gd a (by omega)) hl (q8f sg nw.ok iz (by omega)) (g a (by omega) (by omega)) (.inr rfl)
  |n+1,h,g=>by
    obtain⟨l,hl⟩:=gd (a+1+n) (by omega)
    exact q8l sg (q5C sg nw.ok iz (a+1+n) (by omega)) (xs_rs sg nw.ok iz nw.link.2.2.2 gd (a+1+n) (by omega)) hl (q8f sg nw.ok iz (by omega)) (g _ (by omega) (by omega)) (.inl (hist sg nw iz gd n (by omega) fun j h1 h2=>g j h1 (by omega)))
theorem hF_app {s:SiteT}{x:LocT}{b d:List UInt8}(h:ms (b++d)=ms b++ms d)(g:Sn x d∨d=b):hF s x (ms (b++d)) (reF x (b++d))=hF s x (ms b) (reF x b):=by
  have e:lfo (x.any,x.last,[]) (ms (b++d))=lfo (x.any,x.last,[]) (ms b):=by
    rw[h]
    show List.foldl lst _ (ms b++ms d)=_
    rw[List.foldl_append]
    refine q4z fun m hm=>?_
    rcases g with g|g
    · exact qnW (g.1 m hm)
    · subst g;exact q2o hm
  have e2:reF x (b++d)=reF x b:=by
    unfold reF
    by_cases c:x.rest++b=[]
    · obtain⟨c1,c2⟩:=List.append_eq_nil_iff.1 c
      have:d=[]:=by
        rcases g with g|g
        · exact Classical.not_not.1 fun q=>g.2 q c1
        · rw[g];exact c2
      rw[this,List.append_nil]
    · rw[if_neg c,if_neg (fun q=>c (by rw[← List.append_assoc] at q;exact(List.append_eq_nil_iff.1 q).1))]
  unfold hF
  rw[e,e2]
theorem q2p {s:SiteT} {x:LocT} {i:Inp} {d:List UInt8} {l k:List Msg} (sg:SG s) (ok:LOk s x) (rs:Rs x.rest) (io:InOk i) (gi:Gd l i.bytesf) (gj:Gd k d) (len:i.bytesf.length≤3000∧d.length≤3000) (g:Sn x d∨d=i.bytesf) :
    (stp s x (bn (i.bytesf++d) i)).1=(stp s x i).1∧(stp s x (bn (i.bytesf++d) i)).2=(stp s x i).2:=by
  obtain⟨ga,em⟩:=gd_app gi gj len
  have hx:=q8k sg ok rs gi
  have hy:=q8k (i:=bn (i.bytesf++d) i) sg ok rs ga
  rw[show (bn (i.bytesf++d) i).bytesf=i.bytesf++d from rfl,hF_app em g] at hy
  obtain⟨h1,h2⟩:=stp_rl (p:=fun a=>a) (q:=fun a=>a) (r:=fun a=>a) (w:=fun a=>a) sg ok io hx hy
  exact⟨by rcases h1 with h|h;exact h;exact h,h2⟩
theorem quk {s:SiteT}{x:LocT}{z y:List Inp}(sg:SG s)(nw:LNew s x)(iz:∀ i∈z,InOk i)(gd:∀ k:Nat,k<z.length→∃ m,Gd m (z.getD k (dflt 24)).bytesf)(h:∀ k:Nat,k<z.length→Rpt z k (y.getD k (dflt 24))):∀ j:Nat,j≤z.length→XS s x y j=XS s x z j∧(j<z.length→stp s (XS s x z j) (y.getD j (dflt 24))=stp s (XS s x z j) (z.getD j (dflt 24)))
  |j,hj=>by
    have st:j<z.length→stp s (XS s x z j) (y.getD j (dflt 24))=stp s (XS s x z j) (z.getD j (dflt 24)):=by
      intro hj
      rcases h j hj with e|⟨a,ha,hl,l1,l2,e⟩
      · rw[e]
      · obtain⟨l,gl⟩:=gd j hj
        obtain⟨k,gk⟩:=gd a (by omega)
        rw[e]
        have q:=q2p sg (q5C sg nw.ok iz j (by omega)) (xs_rs sg nw.ok iz nw.link.2.2.2 gd j (by omega)) (by rw[qbK hj];exact iz _ (List.getElem_mem _)) gl gk ⟨l2,l1⟩ (by
          by_cases c:a=j
          · exact .inr (by rw[c])
          · have:=hist sg nw iz gd (a:=a) (j-a-1) (by omega) (fun i h1 h2=>hl i h1 (by omega))
            rw[show a+1+(j-a-1)=j by omega] at this
            exact .inl this)
        exact Prod.ext q.1 q.2
    match j,hj,st with
    |0,_,st=>exact⟨rfl,st⟩
    |j+1,hj,st =>
      refine⟨?_,st⟩
      obtain⟨e1,e2⟩:=quk sg nw iz gd h j (by omega)
      show (stp s (XS s x y j) (y.getD j (dflt 24))).1=(stp s (XS s x z j) (z.getD j (dflt 24))).1
      rw[e1,e2 (by omega)]
def Rpl (z:List Inp)(n:Int)(y:List Inp):Prop:=y.length=z.length∧(∀ k:Nat,(k:Int)<n→k<z.length→Rpt z k (y.getD k (dflt 24)))∧∀ k:Nat,n≤(k:Int)→y.getD k (dflt 24)=z.getD k (dflt 24)
theorem Rpl.skip {z y:List Inp}{n k:Int}(h:Rpl z n y)(em:k=n+1):Rpl z k y:=⟨h.1,fun i hi hz=>by
  by_cases c:(i:Int)<n
  · exact h.2.1 i c hz
  · exact .inl (h.2.2 i (by omega)),fun i hi=>h.2.2 i (by omega)⟩
theorem Rpl.put {z y y':List Inp} {n k a:Int} {x40 x41:Inp} {z42 z43:List UInt8} (h:Rpl z n y) (em:k=n+1) (g:0≤n∧n<z.length) (ga:0≤a∧a≤n) (e40:x40=z.getD n.toNat (dflt 24)) (e41:x41=z.getD a.toNat (dflt 24)) (e42:z42=x40.bytesf) (e43:z43=List.take x40.bytesf.length z42++x41.bytesf) (ey:y'=y.set (0+n.toNat) {y.getD (0+n.toNat) (dflt 24) with bytesf:=List.take (x40.bytesf.length+x41.bytesf.length) z43})
    (l1:x41.bytesf.length≤3000) (l2:x40.bytesf.length≤3000) (nl:∀ j:Nat,a≤(j:Int)→(j:Int)<n∨j=a.toNat→(z.getD j (dflt 24)).lostf=false):Rpl z k y':=by
  obtain⟨h1,h2,h3⟩:=h
  rw[Nat.zero_add] at ey
  have q:∀ i:Nat,y'.getD i (dflt 24)=if i=n.toNat then bn (x40.bytesf++x41.bytesf) (z.getD n.toNat (dflt 24)) else y.getD i (dflt 24):=fun i=>by
    rw[ey,qw6 (by omega),h3 n.toNat (by omega),e43,e42,List.take_length,List.take_of_length_le (by simp)];rfl
  refine⟨by rw[ey,List.length_set,h1],fun i hi hz=>?_,fun i hi=>by rw[q,if_neg (by omega)];exact h3 i (by omega)⟩
  rw[q]
  by_cases c:i=n.toNat
  · rw[if_pos c]
    refine .inr ⟨a.toNat,by omega,fun j h1 h2=>nl j (by omega) (h2.imp (fun h=>by omega) id),by rw[← e41];exact l1,by rw[c,← e40];exact l2,?_⟩
    rw[c,← e41,← e40]
  · rw[if_neg c]
    exact h2 i (by omega) hz
theorem Rpl.all {z y:List Inp}{n:Int}(h:Rpl z n y):∀ k:Nat,k<z.length→Rpt z k (y.getD k (dflt 24)):=fun k hk=>by
  by_cases c:(k:Int)<n
  · exact h.2.1 k c hk
  · exact .inl (h.2.2 k (by omega))
theorem rpl_mem {z y:List Inp}{n:Int}(h:Rpl z n y)(t:∀ i∈z,InT i):∀ i∈y,InT i:=by
  intro i hi
  obtain⟨k,hk,e⟩:=List.getElem_of_mem hi
  have hz:k<z.length:=by have:=h.1;omega
  have r:=h.all k hz
  rw[qbK hk,e] at r
  have q:InT (z.getD k (dflt 24)):=by rw[qbK hz];exact t _ (List.getElem_mem _)
  rcases r with r|⟨a,-,-,l1,l2,r⟩
  · rw[r];exact q
  · rw[r]
    exact⟨q.1,by show (_++_:List UInt8).length≤_;rw[List.length_append];omega,q.2.2⟩
theorem los_step {z:List Inp}{b:Bool}{n k a:Int}{x:Inp}(h:b=false→∀ j:Nat,a≤(j:Int)→(j:Int)<n→(z.getD j (dflt 24)).lostf=false)(g:0≤n)(ex:x=z.getD n.toNat (dflt 24))(em:k=n+1):(bif b then true else x.lostf)=false→∀ j:Nat,a≤(j:Int)→(j:Int)<k→(z.getD j (dflt 24)).lostf=false:=by
  intro hb j h1 h2
  cases b
  · by_cases c:(j:Int)=n
    · rw[show j=n.toNat by omega,← ex];exact hb
    · exact h rfl j h1 (by omega)
  · cases hb
theorem qrO {s:SiteT}{d:List UInt8}{l:List Inp}{m:List (List Msg)}{again:List UInt8}(p0:SWf s)(p1:∀ i∈l,InT i)(p2:l.length*88≤140737488355328)(p3:MOk m):W (qga s d l m again) (fun r=>r=true):=by
 unfold qga qeX
 refine qb5 (alive_ok) ?_
 refine W_if (fun c1=>?_) fun c1=>?_
 ·exact absurd rfl c1
 ·refine qab (q5D p2 p3) ?_
  rintro⟨z2,b3⟩ hz2
  dsimp only at hz2
  refine W_if (fun c2=>?_) fun c2=>?_
  ·refine qaa ?_
   rfl
  ·have gv:=hz2.1 (Classical.not_not.1 c2)
   have lt:(List.take z2.length z2)=z2:=List.take_length
   have lt2:(List.take z2.length z2).length=z2.length:=by rw[lt]
   have pz:=gvn_mem gv p1
   have lv:=gv.1
   refine qab (qzO (by rw[lt];exact pz)) ?_
   rintro b4 hb4
   rw[lt] at hb4
   refine W_if (fun c3=>?_) fun c3=>?_
   ·refine qaa ?_
    rfl
   ·have ft:=hb4 (Classical.not_not.1 c3)
    have l200:=ft.2.2.1
    refine qaf (by omega) ?_
    refine qac fun z5 hz5=>?_
    have lz5:=congrArg List.length hz5;try simp at lz5
    rw[lt] at hz5
    refine W_rs (by omega) ?_
    refine qaj (fun v=>∃ z7 n13,v=((z7,()),((s,()),(d,()),()),again,true,(List.take z2.length z2),n13,())∧(0≤n13∧n13≤z2.length)∧(Rpl z2 n13 z7)) (fun((z7,_),((_,_),(_,_),_),_,_,_,n13,_)=>((z2.length:Int)-n13).toNat) ⟨_,_,rfl,by omega,⟨by rw[hz5],fun k hk=>by omega,fun k hk=>by rw[hz5]⟩⟩ (by simp only[NN];omega) ?_
    rintro r6 _ ⟨z7,n13,rfl,hr6_0,hr6_1⟩ ihr6
    have lz7:=hr6_1.1
    refine W_if (fun c6=>?_) fun c6=>?_
    ·refine W_ix (by omega) fun x22 hx22=>?_
     have u22:=x22.toNat_lt
     refine W_wi (by omega) fun n23 hn23=>?_
     refine W_wi (by omega) fun n24 hn24=>?_
     refine qaf (by omega) ?_
     refine qac fun x25 hx25=>?_
     rw[lt] at hx25
     refine qaf (by omega) ?_
     refine qac fun x26 hx26=>?_
     rw[lt] at hx26
     refine W_if (fun c9=>?_) fun c9=>?_
     ·refine qah (by omega) fun n48 hn48=>?_
      refine W_rs rfl ?_
      exact ihr6.use _ ⟨_,_,rfl,by omega,hr6_1.skip hn48⟩ (by dsimp only;omega)
     ·refine W_rs rfl ?_
      refine qaj (fun v=>∃ b36 n37,v=((z7,()),((s,()),(d,()),()),again,true,(List.take z2.length z2),n13,n24,b36,n37,())∧(0≤n37∧n37≤n13)∧(n24≤n37)∧(b36=false→∀ j:Nat,n24≤(j:Int)→(j:Int)<n37→(z2.getD j (dflt 24)).lostf=false)) (fun((_,_),((_,_),(_,_),_),_,_,_,_,_,b36,n37,_)=>(n13-n37).toNat) ⟨_,_,rfl,by omega,by omega,fun _ j h1 h2=>by omega⟩ (by simp only[NN];omega) ?_
      rintro r27 _ ⟨b36,n37,rfl,hr27_0,hr27_1,hr27_2⟩ ihr27
      refine W_if (fun c12=>?_) fun c12=>?_
      ·refine qaf (by omega) ?_
       refine qac fun x46 hx46=>?_
       rw[lt] at hx46
       refine qah (by omega) fun n47 hn47=>?_
       refine W_rs rfl ?_
       exact ihr27.use _ ⟨_,_,rfl,by omega,by omega,los_step hr27_2 (by omega) hx46 hn47⟩ (by dsimp only;omega)
      ·refine qaf (by omega) ?_
       refine qac fun x38 hx38=>?_
       rw[lt] at hx38
       refine W_if (fun c16=>?_) fun c16=>?_
       ·refine W_ix (by omega) fun x40 hx40=>?_
        rw[lt] at hx40
        have l40:x40.bytesf.length=x26.bytesf.length:=by rw[hx40,hx26]
        refine W_ix (by omega) fun x41 hx41=>?_
        rw[lt] at hx41
        have l41:x41.bytesf.length=x25.bytesf.length:=by rw[hx41,hx25]
        refine qaf (by omega) ?_
        refine qac fun z42 hz42=>?_
        have lz42:=congrArg List.length hz42;try simp at lz42
        refine W_rm (by omega) ?_
        refine qac fun z43 hz43=>?_
        have lz43:=congrArg List.length hz43;try simp at lz43
        refine W_rb (by omega) ?_
        refine qaf (by omega) ?_
        refine qac fun z44 hz44=>?_
        have lz44:=congrArg List.length hz44;try simp at lz44
        refine qah (by omega) fun n45 hn45=>?_
        refine W_rs (by omega) ?_
        exact ihr6.use _ ⟨_,_,rfl,by omega,hr6_1.put hn45 (by omega) (by omega) hx40 hx41 hz42 hz43 hz44 (by omega) (by omega) (fun j h1 h2=>by
            rcases h2 with h2|h2
            · exact hr27_2 (by simpa using c16.1) j h1 (by omega)
            · rw[h2,← hx38];simpa using c16.2)⟩ (by dsimp only;omega)
       ·refine qah (by omega) fun n39 hn39=>?_
        refine W_rs rfl ?_
        exact ihr6.use _ ⟨_,_,rfl,by omega,hr6_1.skip hn39⟩ (by dsimp only;omega)
    ·have ly:(List.take z7.length z7)=z7:=List.take_length
     have py:=rpl_mem hr6_1 pz
     refine qab (qzO (by rw[ly];exact py)) ?_
     rintro b14 hb14
     rw[ly] at hb14
     refine W_if (fun c23=>?_) fun c23=>?_
     ·refine qaa ?_
      rfl
     ·have fy:=hb14 (Classical.not_not.1 c23)
      refine qab (qui ft.1 p0 (by have:=ft.2.1;omega) (by rw[lt];have:=ft.2.2.1;omega) (by rw[lt];exact q8g ft pz)) ?_
      rintro⟨z15,z16,n17⟩ hz15
      rw[lt] at hz15
      refine qab (qui fy.1 p0 (by have:=fy.2.1;omega) (by rw[ly];have:=fy.2.2.1;omega) (by rw[ly];exact q8g fy py)) ?_
      rintro⟨z18,z19,n20⟩ hz18
      rw[ly] at hz18
      have tr:=two_runs hz15 hz18 lz7.symm (fun sg x nw j hj=>by
       have a:=quk sg nw (q8g ft pz) (gvn_gd gv) hr6_1.all
       obtain⟨a1,a2⟩:=a j (by omega)
       refine⟨?_,by rw[(a (j+1) (by omega)).1]⟩
       unfold LS
       rw[a1,a2 hj])
      simp only[Prod.mk.injEq] at tr
      obtain⟨t1,t2,t3⟩:=tr
      have ll:=run_len hz15 ft.2.2.1
      dsimp only at ll
      subst t1;subst t2;subst t3
      refine W_if (fun c24=>?_) fun c24=>?_
      ·refine qab (q8j (by omega) (by omega) (fun _ _=>rfl)) ?_
       rintro b21 hb21
       refine qaa ?_
       subst hb21;simp
      ·refine qaa ?_
       exact absurd ⟨⟨rfl,rfl⟩,rfl⟩ c24
end Go.Proofs.YtcdppfnjidlknaaGreatDoor
namespace Go.Eng
open Go Go.ChangeShapes
section
variable {H : Type} {enc' : TypeId × Value → H} {P : Program} {w : World} {base : Nat} {held : Bool}
theorem qk1 {t:TypeId} {fs:Array Field} (ht:P.underlying t=some (.struct fs)) (ts:List TypeId) (hfs:(fs.toList.map fun f=>(f.offset,f.type))=(List.range ts.length).zip ts) (hone:∀ u∈ts,P.cellsOf u=1) (hsz:P.cellsOf t=ts.length)
  {n:Nat} {cs:List Value} {y:DataW H×List MemPlace} (h:DataW.trod enc' P w base (fun _=>true) held n t cs=some y) :
  ∃ (xs:List (DataW H×List MemPlace)) (m:Nat),y.1=.agg (xs.map (·.1))∧xs.length=ts.length∧cs.length=ts.length∧∀ (i:Nat) (u:TypeId),ts[i]? = some u→∃ c yi,cs[i]? = some c∧xs[i]? = some yi∧DataW.trod enc' P w base (fun _=>true) held m u [c]=some yi:=by
 obtain⟨xs,m,-,rfl,hl,hlen,hf⟩:=DataW.trod_struct ht h
 have fsz:fs.size=ts.length:=by have:=congrArg List.length hfs;simpa using this
 refine⟨xs,m,rfl,by omega,by omega,fun i u hu=>?_⟩
 have hi:i<ts.length:=(List.getElem?_eq_some_iff.1 hu).1
 have hz:((List.range ts.length).zip ts)[i]? = some (i,u):=by
  rw[List.getElem?_zip_eq_some]
  exact⟨by rw[List.getElem?_range hi],hu⟩
 rw[← hfs,List.getElem?_map] at hz
 obtain⟨f,hf1,hf2⟩:=Option.map_eq_some_iff.1 hz
 simp only[Prod.mk.injEq] at hf2
 have hf1':fs[i]? = some f:=by simpa using hf1
 have hfi:=hf i f hf1'
 rw[hf2.1,hf2.2,hone u (List.mem_of_getElem? hu)] at hfi
 have hc:i<cs.length:=by omega
 have hx:i<xs.length:=by omega
 have e:(cs.drop i).take 1=[cs[i]]:=by rw[List.drop_eq_getElem_cons hc];rfl
 rw[e] at hfi
 exact⟨cs[i],xs[i],List.getElem?_eq_getElem hc,List.getElem?_eq_getElem hx,by rw[hfi,List.getElem?_eq_getElem hx]⟩
theorem qd9 {m:Nat}{u:TypeId} {κ:IntKind}{c:Value}{y:DataW H×List MemPlace}(hu:P.underlying u=some (.int κ))(h:DataW.trod enc' P w base (fun _=>true) held m u [c]=some y):∃ a,c=.int κ a∧kwf κ a:=by
 obtain⟨a,e,-,w0⟩:=DataW.trod_int hu h
 simp at e
 exact⟨a,e,by simpa [Lit.wf,kwf] using w0⟩
theorem q2E {m:Nat}{u:TypeId}{c:Value}{y:DataW H×List MemPlace}(hu:P.underlying u=some .bool)(h:DataW.trod enc' P w base (fun _=>true) held m u [c]=some y):∃ a,c=.bool a:=by
 obtain⟨a,e,-⟩:=DataW.trod_bool hu h
 simp at e
 exact⟨a,e⟩
def ZT {α:Type}(d:DataW H)(x:α):Prop:=True
theorem q81 {t t1 t2 t3:TypeId} {fs:Array Field} (ht:P.underlying t=some (.struct fs)) (hsz:P.cellsOf t=3) (hfs:(fs.toList.map fun f=>(f.offset,f.type))=[(0,t1),(1,t2),(2,t3)]) (h1:P.underlying t1=some (.int .u8)) (h2:P.underlying t2=some (.int .i64)) (h3:P.underlying t3=some (.int .i64))
  (z1:P.cellsOf t1=1) (z2:P.cellsOf t2=1) (z3:P.cellsOf t3=1):qbp enc' P w base held 17 (ZT (α:=Grp)) t:=fun n cs y h=>by
 obtain⟨xs,m,-,-,hl,hf⟩:=qk1 ht [t1,t2,t3] hfs (by intro u hu;simp at hu;rcases hu with rfl|rfl|rfl<;>assumption) hsz h
 match cs,hl with
 | [c0,c1,c2],_ =>
  obtain⟨a,y0,e0,-,g0⟩:=hf 0 _ rfl
  obtain⟨b,y1,e1,-,g1⟩:=hf 1 _ rfl
  obtain⟨c,y2,e2,-,g2⟩:=hf 2 _ rfl
  cases e0;cases e1;cases e2
  obtain⟨a0,rfl,k0⟩:=qd9 h1 g0
  obtain⟨a1,rfl,k1⟩:=qd9 h2 g1
  obtain⟨a2,rfl,k2⟩:=qd9 h3 g2
  refine⟨⟨a0,a1,a2⟩,trivial,rfl,fun j u hv=>?_⟩
  match j,hv with
  |0,hv=>cases hv;exact⟨rfl,.int k0⟩
  |1,hv=>cases hv;exact⟨rfl,.int k1⟩
  |2,hv=>cases hv;exact⟨rfl,.int k2⟩
  |j+3,hv=>simp at hv
def ZPhs (d:DataW H)(x:Phs):Prop:=0≤x.groupsf∧x.groupsf<4294967296
theorem q82 {t t1 t2 t3 t4 t5:TypeId} {fs:Array Field} (ht:P.underlying t=some (.struct fs)) (hsz:P.cellsOf t=5) (hfs:(fs.toList.map fun f=>(f.offset,f.type))=[(0,t1),(1,t2),(2,t3),(3,t4),(4,t5)]) (h1:P.underlying t1=some (.int .u32)) (h2:P.underlying t2=some (.int .i64)) (h3:P.underlying t3=some (.int .i64)) (h4:P.underlying t4=some (.int .i64)) (h5:P.underlying t5=some .bool)
  (z1:P.cellsOf t1=1) (z2:P.cellsOf t2=1) (z3:P.cellsOf t3=1) (z4:P.cellsOf t4=1) (z5:P.cellsOf t5=1):qbp enc' P w base held 18 ZPhs t:=fun n cs y h=>by
 obtain⟨xs,m,-,-,hl,hf⟩:=qk1 ht [t1,t2,t3,t4,t5] hfs (by intro u hu;simp at hu;rcases hu with rfl|rfl|rfl|rfl|rfl<;>assumption) hsz h
 match cs,hl with
 | [c0,c1,c2,c3,c4],_ =>
  obtain⟨a,y0,e0,-,g0⟩:=hf 0 _ rfl
  obtain⟨b,y1,e1,-,g1⟩:=hf 1 _ rfl
  obtain⟨c,y2,e2,-,g2⟩:=hf 2 _ rfl
  obtain⟨d,y3,e3,-,g3⟩:=hf 3 _ rfl
  obtain⟨e,y4,e4,-,g4⟩:=hf 4 _ rfl
  cases e0;cases e1;cases e2;cases e3;cases e4
  obtain⟨a0,rfl,k0⟩:=qd9 h1 g0
  obtain⟨a1,rfl,k1⟩:=qd9 h2 g1
  obtain⟨a2,rfl,k2⟩:=qd9 h3 g2
  obtain⟨a3,rfl,k3⟩:=qd9 h4 g3
  obtain⟨a4,rfl⟩:=q2E h5 g4
  refine⟨⟨a0,a1,a2,a3,a4⟩,(show 0≤a0∧a0<4294967296 from by have:0≤a0∧a0≤4294967295:=k0;omega),rfl,fun j u hv=>?_⟩
  match j,hv with
  |0,hv=>cases hv;exact⟨rfl,.int k0⟩
  |1,hv=>cases hv;exact⟨rfl,.int k1⟩
  |2,hv=>cases hv;exact⟨rfl,.int k2⟩
  |3,hv=>cases hv;exact⟨rfl,.int k3⟩
  |4,hv=>cases hv;exact⟨rfl,.bool⟩
  |j+5,hv=>simp at hv
theorem q83 {t t1 t2 t3 t4:TypeId} {fs:Array Field} (ht:P.underlying t=some (.struct fs)) (hsz:P.cellsOf t=4) (hfs:(fs.toList.map fun f=>(f.offset,f.type))=[(0,t1),(1,t2),(2,t3),(3,t4)]) (h1:P.underlying t1=some (.int .i64)) (h2:P.underlying t2=some (.int .i64)) (h3:P.underlying t3=some (.int .i64)) (h4:P.underlying t4=some (.int .i64))
  (z1:P.cellsOf t1=1) (z2:P.cellsOf t2=1) (z3:P.cellsOf t3=1) (z4:P.cellsOf t4=1):qbp enc' P w base held 19 (ZT (α:=EyeT)) t:=fun n cs y h=>by
 obtain⟨xs,m,-,-,hl,hf⟩:=qk1 ht [t1,t2,t3,t4] hfs (by intro u hu;simp at hu;rcases hu with rfl|rfl|rfl|rfl<;>assumption) hsz h
 match cs,hl with
 | [c0,c1,c2,c3],_ =>
  obtain⟨a,y0,e0,-,g0⟩:=hf 0 _ rfl
  obtain⟨b,y1,e1,-,g1⟩:=hf 1 _ rfl
  obtain⟨c,y2,e2,-,g2⟩:=hf 2 _ rfl
  obtain⟨d,y3,e3,-,g3⟩:=hf 3 _ rfl
  cases e0;cases e1;cases e2;cases e3
  obtain⟨a0,rfl,k0⟩:=qd9 h1 g0
  obtain⟨a1,rfl,k1⟩:=qd9 h2 g1
  obtain⟨a2,rfl,k2⟩:=qd9 h3 g2
  obtain⟨a3,rfl,k3⟩:=qd9 h4 g3
  refine⟨⟨a0,a1,a2,a3⟩,trivial,rfl,fun j u hv=>?_⟩
  match j,hv with
  |0,hv=>cases hv;exact⟨rfl,.int k0⟩
  |1,hv=>cases hv;exact⟨rfl,.int k1⟩
  |2,hv=>cases hv;exact⟨rfl,.int k2⟩
  |3,hv=>cases hv;exact⟨rfl,.int k3⟩
  |j+4,hv=>simp at hv
def ZInp (d:DataW H)(x:Inp):Prop:=(0≤x.eyesf∧x.eyesf<4294967296)∧∃ d0 d1 d2 r,d=.agg (d0::d1::d2::r)∧DSz Z0 d0 x.bytesf∧DSz Z0 d2 x.backf
theorem q84 {t t1 t2 t3 t4 t5 t6 t7 e:TypeId} {fs:Array Field} (ht:P.underlying t=some (.struct fs)) (hsz:P.cellsOf t=7) (hfs:(fs.toList.map fun f=>(f.offset,f.type))=[(0,t1),(1,t2),(2,t3),(3,t4),(4,t5),(5,t6),(6,t7)]) (h1:P.underlying t1=some (.slice e)) (h2:P.underlying t2=some (.int .u32)) (h3:P.underlying t3=some (.slice e)) (h4:P.underlying t4=some .bool) (h5:P.underlying t5=some (.int .i64)) (h6:P.underlying t6=some (.int .i64)) (h7:P.underlying t7=some .bool) (he:P.underlying e=some (.int .u8))
  (z1:P.cellsOf t1=1) (z2:P.cellsOf t2=1) (z3:P.cellsOf t3=1) (z4:P.cellsOf t4=1) (z5:P.cellsOf t5=1) (z6:P.cellsOf t6=1) (z7:P.cellsOf t7=1) (ze:P.cellsOf e=1):qbp enc' P w base held 24 ZInp t:=fun n cs y h=>by
 obtain⟨xs,m,ey,hxl,hl,hf⟩:=qk1 ht [t1,t2,t3,t4,t5,t6,t7] hfs (by intro u hu;simp at hu;rcases hu with rfl|rfl|rfl|rfl|rfl|rfl|rfl<;>assumption) hsz h
 match cs,hl with
 | [c0,c1,c2,c3,c4,c5,c6],_ =>
  obtain⟨a,y0,e0,x0,g0⟩:=hf 0 _ rfl
  obtain⟨b,y1,e1,x1,g1⟩:=hf 1 _ rfl
  obtain⟨c,y2,e2,x2,g2⟩:=hf 2 _ rfl
  obtain⟨d,y3,e3,x3,g3⟩:=hf 3 _ rfl
  obtain⟨e',y4,e4,x4,g4⟩:=hf 4 _ rfl
  obtain⟨f',y5,e5,x5,g5⟩:=hf 5 _ rfl
  obtain⟨g',y6,e6,x6,g6⟩:=hf 6 _ rfl
  cases e0;cases e1;cases e2;cases e3;cases e4;cases e5;cases e6
  obtain⟨v0,b0,q0,o0,r0,s0⟩:=qa9 (c:=0) (by decide) h1 ze (qgr he) g0
  obtain⟨a1,rfl,k1⟩:=qd9 h2 g1
  obtain⟨v2,b2,q2,o2,r2,s2⟩:=qa9 (c:=0) (by decide) h3 ze (qgr he) g2
  obtain⟨a3,rfl⟩:=q2E h4 g3
  obtain⟨a4,rfl,k4⟩:=qd9 h5 g4
  obtain⟨a5,rfl,k5⟩:=qd9 h6 g5
  obtain⟨a6,rfl⟩:=q2E h7 g6
  simp at q0 q2
  subst q0;subst q2
  match xs,hxl with
  | [p0,p1,p2,p3,p4,p5,p6],_ =>
   cases x0;cases x2
   refine⟨⟨b0,a1,b2,a3,a4,a5,a6⟩,⟨(show 0≤a1∧a1<4294967296 from by have:0≤a1∧a1≤4294967295:=k1;omega),_,_,_,_,ey,s0,s2⟩,rfl,fun j u hv=>?_⟩
   match j,hv with
   |0,hv=>cases hv;exact⟨o0,r0⟩
   |1,hv=>cases hv;exact⟨rfl,.int k1⟩
   |2,hv=>cases hv;exact⟨o2,r2⟩
   |3,hv=>cases hv;exact⟨rfl,.bool⟩
   |4,hv=>cases hv;exact⟨rfl,.int k4⟩
   |5,hv=>cases hv;exact⟨rfl,.int k5⟩
   |6,hv=>cases hv;exact⟨rfl,.bool⟩
   |j+7,hv=>simp at hv
theorem q44 {α:Type}{Z:DataW H→α→Prop}{Q:α→Prop}(hq:∀ d x,Z d x→Q x):∀ (el:List (DataW H)) (xs:List α),ZAll Z el xs→∀ x∈xs,Q x
 | [],[],_,x,hx=>by simp at hx
 |d::el,y::xs,h,x,hx=>by
  rcases List.mem_cons.1 hx with rfl|hx
  ·
   exact hq _ _ h.1
  ·
   exact q44 hq el xs h.2 x hx
theorem dsz_all {α:Type}{Z:DataW H→α→Prop}{Q:α→Prop}(hq:∀ d x,Z d x→Q x){d:DataW H}{xs:List α}(h:DSz Z d xs):∀ x∈xs,Q x:=by
 rcases h with rfl|⟨el,sp,-,h⟩
 ·
  intro x hx;simp at hx
 ·
  exact q44 hq el xs h
theorem q2F {α:Type}{Z:DataW H→α→Prop}{P:Program}{t e:TypeId}{d:DataW H}{xs:List α}(h:DSz Z d xs)(ht:P.underlying t=some (.slice e))(hb:0<P.bytesOf e)(hn:∀ n,n∈DataW.weights P t d→n≤reachBytes):xs.length≤140737488355328:=by
 rcases h with rfl|⟨el,sp,rfl,hz⟩
 ·
  simp
 ·
  have l:=quY el xs hz
  have:=hn ((el.length+sp.length)*P.bytesOf e) (by simp[DataW.weights,ht])
  have r:reachBytes≤140737488355328:=by decide
  have:el.length+sp.length≤(el.length+sp.length)*P.bytesOf e:=Nat.le_mul_of_pos_right _ hb
  omega
def InB (x:Inp):Prop:=(0≤x.eyesf∧x.eyesf<4294967296)∧x.bytesf.length≤140737488355328∧x.backf.length≤140737488355328
theorem q85 {P:Program}{t t1 t2 t3 e:TypeId}{fs:Array Field}{r:List TypeId}(ht:P.underlying t=some (.struct fs))(hf:fs.toList.map (·.type)=t1::t2::t3::r)(h1:P.underlying t1=some (.slice e))(h3:P.underlying t3=some (.slice e))(hb:0<P.bytesOf e):∀ (el:List (DataW H)) (xs:List Inp),ZAll ZInp el xs→(∀ n,n∈DataW.weightsAll P t el→n≤reachBytes)→∀ x∈xs,InB x
 | [],[],_,_,x,hx=>by simp at hx
 | [],_::_,h,_,_,_=>h.elim
 |_::_,[],h,_,_,_=>h.elim
 |d::el,y::xs,h,hn,x,hx=>by
  rcases List.mem_cons.1 hx with rfl|hx
  ·
   obtain⟨hy,d0,d1,d2,rr,rfl,z0,z2⟩:=h.1
   refine⟨hy,q2F z0 h1 hb fun n hm=>hn n ?_,q2F z2 h3 hb fun n hm=>hn n ?_⟩
   ·
    simp only[DataW.weightsAll,DataW.weights,ht,hf,DataW.weightsEach,List.mem_append];exact .inl (.inl hm)
   ·
    simp only[DataW.weightsAll,DataW.weights,ht,hf,DataW.weightsEach,List.mem_append];exact .inl (.inr (.inr (.inl hm)))
  ·
   exact q85 ht hf h1 h3 hb el xs h.2 (fun n hm=>hn n (by simp only[DataW.weightsAll,List.mem_append];exact .inr hm)) x hx
theorem q86 {P:Program}{ts:List TypeId}{ds:List (DataW H)}(h:(DataW.weightsEach P ts ds).all (·≤reachBytes)=true){j:Nat}{t' t t1 t2 t3 e:TypeId}{fs:Array Field}{r:List TypeId}{d:DataW H}{xs:List Inp}(hj:ts[j]? = some t')(hd:ds[j]? = some d)(hu:P.underlying t'=some (.slice t))(ht:P.underlying t=some (.struct fs))(hf:fs.toList.map (·.type)=t1::t2::t3::r)(h1:P.underlying t1=some (.slice e))(h3:P.underlying t3=some (.slice e))(hb:0<P.bytesOf e)(z:DSz ZInp d xs):∀ x∈xs,InB x:=by
 rcases z with rfl|⟨el,sp,rfl,hz⟩
 ·
  intro x hx;simp at hx
 ·
  refine q85 ht hf h1 h3 hb el xs hz fun n hn=>?_
  have:=List.all_eq_true.1 h n (DataW.weights_mem_each hj hd n (by simp[DataW.weights,hu,hn]))
  simpa using this
end
end Go.Eng
