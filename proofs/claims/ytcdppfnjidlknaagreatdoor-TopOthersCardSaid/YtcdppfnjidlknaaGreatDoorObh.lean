import Derived.Test.YtcdppfnjidlknaaGreatDoorObg
set_option linter.unusedVariables false
set_option linter.unusedSimpArgs false
namespace Go.Proofs.YtcdppfnjidlknaaGreatDoor
open Go Go.Eng Go.Proofs Go.Wp
theorem pcL_w {u:List UInt8}(h:u.length≤1000000):pcL u=[]∨∃ m:Msg,pcL u=[m]∧9≤u.length∧∀ o,qgg u=some (false,o)→m.kind=o.getD 0 0∧m.body=(o.take (o.length-4)).drop 5:=by
  obtain⟨⟨a,k,n,b⟩,e,-,h1,h2⟩:=qmO h
  unfold pcL
  rw[e]
  cases a
  · exact .inl rfl
  · refine .inr ⟨_,rfl,h1 rfl,fun o ho=>?_⟩
    obtain⟨g1,g2⟩:=h2 o ho rfl
    exact⟨by dsimp only at g1 ⊢;rw[g1,Int.toNat_natCast,UInt8.ofNat_toNat],g2⟩
theorem emit0 (g:Bool):emit (g,false,[]) 126=[]:=by
  unfold emit
  split
  · rcases pcL_w (u:=[]) (by simp) with h|⟨m,-,h,-⟩
    · exact h
    · simp at h
  · rfl
theorem qzQ:∀ (b u:List UInt8),(∀ x,x∈b→x≠126)→u.length+b.length≤1043→qlO (true,false,u) b=(true,false,u++b)∧msgs (true,false,u) b=[]
  | [],u,_,_=>by simp[qlO,msgs]
  |x::b,u,h,hl=>by
    have hx:x≠126:=h x (List.mem_cons_self ..)
    simp only[List.length_cons] at hl
    have e:rst (true,false,u) x=(true,false,u++[x]):=by
      unfold rst
      rw[if_neg hx,if_neg (by show ¬ 1043≤u.length;omega),if_pos rfl]
    have g:emit (true,false,u) x=[]:=by unfold emit;rw[if_neg (fun c=>hx c.1)]
    obtain⟨r1,r2⟩:=qzQ b (u++[x]) (fun y hy=>h y (List.mem_cons_of_mem _ hy)) (by simp only[List.length_append,List.length_cons,List.length_nil];omega)
    refine⟨?_,?_⟩
    · show qlO (rst (true,false,u) x) b=_
      rw[e,r1,List.append_assoc];rfl
    · rw[msgs,g,e,r2];rfl
theorem qzR {c:List UInt8}(h:c.length≤521)(g:Bool):qlO (g,false,[]) (126::(stf c++[126]))=(true,false,[])∧msgs (g,false,[]) (126::(stf c++[126]))=pcL (stf c):=by
  have L:=qqS c
  obtain⟨r1,r2⟩:=qzQ (stf c) [] (stf_no _) (by simp only[List.length_nil];omega)
  have e:rst (g,false,[]) 126=(true,false,[]):=rfl
  refine⟨?_,?_⟩
  · show qlO (rst (g,false,[]) 126) _=_
    rw[e,qqT,r1];rfl
  · rw[msgs,emit0,e,qnU,r1,r2]
    show []++([]++(emit (true,false,[]++stf c) 126++[]))=_
    unfold emit
    rw[if_pos ⟨rfl,rfl,rfl⟩]
    simp
def Gd (l:List Msg)(b:List UInt8):Prop:=b.length≤6100∧(b=[]∨b.getD (b.length-1) 0=126)∧(∀ g,(qlO (g,false,[]) b).2=(false,[])∧msgs (g,false,[]) b=msgs (true,false,[]) b)∧∀ x∈msgs (true,false,[]) b,∃ y∈l,x.kind=y.kind∧x.body=y.body
theorem gd_nil (l:List Msg):Gd l []:=⟨by simp,.inl rfl,fun g=>⟨rfl,rfl⟩,fun x hx=>by simp[msgs] at hx⟩
theorem Gd.go {l:List Msg}{b f z:List UInt8}{n k:Int}{x:Msg}{k0:UInt8}(h:Gd (l.take n.toNat) b)(g:0≤n∧n<l.length)(ex:x=l.getD n.toNat (dflt 8))(em:k=n+1)(hb:b.length≤5000)(e1:k0=x.kind)(hf:∃ c,9≤c.length∧c.length≤521∧c.getD 0 0=k0∧(c.take (c.length-4)).drop 5=x.body∧f=126::(stf c++[126]))(ez:z=b++f):Gd (l.take k.toNat) z:=by
  obtain⟨c,c1,c2,c3,c4,rfl⟩:=hf
  obtain⟨h1,h2,h3,h4⟩:=h
  have L:=qqS c
  have fr:∀ s:Bool,∃ s',qlO (s,false,[]) b=(s',false,[]):=fun s=>⟨_,Prod.ext rfl (h3 s).1⟩
  have mg:∀ s,msgs (s,false,[]) z=msgs (true,false,[]) b++pcL (stf c):=fun s=>by
    obtain⟨s',e⟩:=fr s
    rw[ez,qnU,(h3 s).2,e,(qzR c2 s').2]
  have lz:z.length=b.length+(stf c).length+2:=by rw[ez];simp;omega
  refine⟨by omega,.inr ?_,fun s=>⟨?_,by rw[mg,mg]⟩,fun y hy=>?_⟩
  · rw[lz,ez,List.getD_eq_getElem?_getD,List.getElem?_append_right (by omega),show b.length+(stf c).length+2-1-b.length=(stf c).length+1 by omega,List.getElem?_cons_succ,List.getElem?_append_right (by omega),Nat.sub_self];rfl
  · obtain⟨s',e⟩:=fr s
    rw[ez,qqT,e,(qzR c2 s').1]
  · rw[mg] at hy
    rw[q5O (dflt 8) g em,← ex]
    rcases List.mem_append.1 hy with hy|hy
    · obtain⟨q,hq,e⟩:=h4 y hy
      exact⟨q,List.mem_append_left _ hq,e⟩
    · refine⟨x,by simp,?_⟩
      rcases pcL_w (u:=stf c) (by omega) with e|⟨m',e,-,h5⟩
      · rw[e] at hy;simp at hy
      · rw[e] at hy
        simp only[List.mem_singleton] at hy
        obtain⟨h6,h7⟩:=h5 c (q8c c)
        rw[hy,h6,h7,c3,c4]
        exact⟨e1,rfl⟩
def Gvn (l:List Inp)(m:List (List Msg))(n:Int)(z:List Inp):Prop:=z.length=l.length∧(∀ k:Nat,(k:Int)<n→z.getD k (dflt 24)={l.getD k (dflt 24) with bytesf:=(z.getD k (dflt 24)).bytesf}∧Gd (m.getD k (dflt 11)) (z.getD k (dflt 24)).bytesf)∧∀ k:Nat,n≤(k:Int)→z.getD k (dflt 24)=l.getD k (dflt 24)
theorem q42 {α:Type}{z:List α}{n k:Nat}{x d:α}(h:n<z.length):(z.set n x).getD k d=if k=n then x else z.getD k d:=by
  rw[List.getD_eq_getElem?_getD]
  split
  · rename_i e
    rw[e,List.getElem?_set_self h];rfl
  · rename_i e
    rw[List.getElem?_set_ne (Ne.symm e),List.getD_eq_getElem?_getD]
theorem Gvn.go {l:List Inp} {m:List (List Msg)} {z z':List Inp} {n k:Int} {b:List UInt8} (h:Gvn l m n z) (g:0≤n∧n<z.length) (em:k=n+1) (hz:z'=z.set n.toNat {z.getD n.toNat (dflt 24) with bytesf:=b}) (hb:Gd (m.getD n.toNat (dflt 11)) b):Gvn l m k z':=by
  obtain⟨h1,h2,h3⟩:=h
  have q:∀ i:Nat,z'.getD i (dflt 24)=if i=n.toNat then {z.getD n.toNat (dflt 24) with bytesf:=b} else z.getD i (dflt 24):=fun i=>by rw[hz];exact q42 (by omega)
  refine⟨by rw[hz,List.length_set,h1],fun i hi=>?_,fun i hi=>by rw[q,if_neg (by omega)];exact h3 i (by omega)⟩
  rw[q]
  by_cases c:i=n.toNat
  · rw[if_pos c,c,h3 n.toNat (by omega)]
    exact⟨rfl,hb⟩
  · rw[if_neg c]
    exact h2 i (by omega)
theorem set2 {z z6 z10:List Inp} {n:Nat} {b:List UInt8} (h:n<z.length) (e6:z6=z.set (0+n) {z.getD (0+n) (dflt 24) with bytesf:=[]}) (e10:z10=z6.set (0+n) {z6.getD (0+n) (dflt 24) with bytesf:=b}):z10=z.set n {z.getD n (dflt 24) with bytesf:=b}:=by
  rw[Nat.zero_add] at e6 e10
  subst e6
  rw[e10,q42 h,if_pos rfl,List.set_set]
def MOk (m:List (List Msg)):Prop:=m.length≤140737488355328∧∀ x∈m,x.length≤140737488355328∧∀ y∈x,y.body.length≤140737488355328
theorem q2p {l:List Msg}(p0:l.length≤140737488355328)(p1:∀ y∈l,y.body.length≤140737488355328):W (qqr l) (fun r=>r.2=true→Gd l r.1):=by
 unfold qqr ql6
 refine qak (fun v=>∃ z2 n4,v=((z2,()),(),l,n4,())∧(0≤n4∧n4≤l.length)∧(Gd (l.take n4.toNat) z2)) (fun((z2,_),_,_,n4,_)=>(l.length-n4).toNat) ⟨_,_,rfl,by omega,gd_nil _⟩ (by simp only[NN];omega) ?_
 rintro r1 _ ⟨z2,n4,rfl,hr1_0,hr1_1⟩ ihr1
 have lz2:=hr1_1.1
 refine W_if (fun c1=>?_) fun c1=>?_
 ·refine W_ix (by omega) fun x5 hx5=>?_
  have g5:=p1 x5 (by rw[hx5];exact qbc (by omega))
  refine qab (qmP (by dsimp only;omega)) ?_
  rintro⟨z6,n7⟩ hz6
  dsimp only at hz6
  refine W_if (fun c2=>?_) fun c2=>?_
  ·refine qaa ?_
   exact fun h=>by simp at h
  ·refine W_rm (by omega) ?_
   refine qac fun z8 hz8=>?_
   have lz8:=congrArg List.length hz8;try simp at lz8
   refine qah (by omega) fun n9 hn9=>?_
   refine W_rs (by omega) ?_
   exact ihr1.use _ ⟨_,_,rfl,by omega,hr1_1.go (by omega) hx5 hn9 (by omega) (by rw[Int.toNat_natCast,UInt8.ofNat_toNat]) (hz6.2 (by omega)).2 (by rw[hz8,List.take_length,List.take_length])⟩ (by dsimp only;omega)
 ·refine W_rs rfl ?_
  refine qaa ?_
  intro _;rw[List.take_of_length_le (by omega)] at hr1_1;exact hr1_1
theorem quk {l:List Inp}{m:List (List Msg)}(p0:l.length*88≤140737488355328)(p1:MOk m):W (qjV l m) (fun r=>(r.2=true→Gvn l m l.length r.1)∧(m=[]→r.2=true)):=by
 unfold qjV qqy
 refine qaf (by omega) ?_
 refine qac fun z1 hz1=>?_
 have lz1:=congrArg List.length hz1;try simp at lz1
 refine W_rs (by omega) ?_
 refine qak (fun v=>∃ z3 n5,v=((z3,()),(),m,n5,())∧(0≤n5∧n5≤l.length)∧(Gvn l m n5 z3)) (fun((z3,_),_,_,n5,_)=>((l.length:Int)-n5).toNat) ⟨_,_,rfl,⟨by omega,by omega⟩,⟨hz1▸rfl,fun k hk=>by omega,fun k hk=>by rw[hz1]⟩⟩ (by simp only[NN];omega) ?_
 rintro r2 _ ⟨z3,n5,rfl,hr2_0,hr2_1⟩ ihr2
 have lz3:=hr2_1.1
 refine W_if (fun c3=>?_) fun c3=>?_
 ·have pm:=p1.1
  refine W_rb (by omega) ?_
  refine qaf (by omega) ?_
  refine qac fun z6 hz6=>?_
  have lz6:=congrArg List.length hz6;try simp at lz6
  refine W_if (fun c6=>?_) fun c6=>?_
  ·refine qah (by omega) fun n12 hn12=>?_
   refine W_rs (by omega) ?_
   exact ihr2.use _ ⟨_,_,rfl,by omega,hr2_1.go (by omega) hn12 (by rw[hz6,Nat.zero_add]) (gd_nil _)⟩ (by dsimp only;omega)
  ·refine W_ix (by omega) fun z7 hz7=>?_
   have g7:=p1.2 z7 (by rw[hz7];exact qbc (by omega))
   refine qab (q2p g7.1 g7.2) ?_
   rintro⟨z8,b9⟩ hz8
   dsimp only at hz8
   refine W_if (fun c8=>?_) fun c8=>?_
   ·refine qaa ?_
    exact⟨fun h=>by simp at h,fun h=>by have:=congrArg List.length h;rw[List.length_nil] at this;omega⟩
   ·refine W_rb (by omega) ?_
    refine qaf (by omega) ?_
    refine qac fun z10 hz10=>?_
    have lz10:=congrArg List.length hz10;try simp at lz10
    refine qah (by omega) fun n11 hn11=>?_
    refine W_rs (by omega) ?_
    exact ihr2.use _ ⟨_,_,rfl,by omega,hr2_1.go (by omega) hn11 (set2 (by omega) hz6 hz10) (by rw[List.take_length,← hz7];exact hz8 (Classical.not_not.1 c8))⟩ (by dsimp only;omega)
 ·refine W_rs rfl ?_
  refine qaa ?_
  exact⟨fun _=>(show n5=(l.length:Int) by omega)▸hr2_1,fun _=>rfl⟩
end Go.Proofs.YtcdppfnjidlknaaGreatDoor
namespace Go.Proofs.YtcdppfnjidlknaaGreatDoor
open Go Go.Eng Go.Proofs Go.Wp
theorem q8k:∀ {l:List Msg} {a:Bool×Int×List Msg} {m:Msg},m∈(lfo a l).2.2→m∈a.2.2∨m∈l
 | [],a,m,h=>.inl h
 |x::l,a,m,h=>by
  rcases q8k (l:=l) (a:=lst a x) h with g|g
  ·
   unfold lst at g
   split at g
   ·
    exact .inl g
   ·
    rcases List.mem_append.1 g with g|g
    ·
     exact .inl g
    ·
     exact .inr (List.mem_cons.2 (.inl (by simpa using g)))
  ·
   exact .inr (List.mem_cons_of_mem _ g)
theorem q43:∀ {t:SiteT} {l:List Msg} {a:Bool×Int×Int×List Int},(∀ m∈l,qaj t m≠some true)→cfo t a l=a
 |t,[],a,_=>rfl
 |t,x::l,a,h=>by
  have e:cfs t a x=a:=by unfold cfs;rw[if_neg (h x (List.mem_cons_self ..))]
  show cfo t (cfs t a x) l=a
  rw[e]
  exact q43 fun m hm=>h m (List.mem_cons_of_mem _ hm)
theorem qzS {t:SiteT}{x y:Msg}(e1:x.kind=y.kind)(e2:x.body=y.body):qaj t x=qaj t y:=by
 unfold qaj qcm
 rw[e1,e2]
noncomputable abbrev ms (b:List UInt8):List Msg:=msgs (true,false,[]) b
noncomputable def hF (s:SiteT)(x:LocT)(l:List Msg)(re:List UInt8):Bool×LocT :=
 let f:=lfo (x.any,x.last,[]) l
 let c:=cfo s (false,x.cycle,x.offset,x.splits) f.2.2
 (c.1,{x with any:=f.1,last:=f.2.1,lage:=if f.2.2=[] then min (x.lage+1) 1048576 else 0,rest:=re,cycle:=c.2.1,offset:=c.2.2.1,splits:=c.2.2.2,age:=if c.1=true then 0 else min (x.age+1) 1048576})
def Rs (r:List UInt8):Prop:=r=[]∨r=[126]
def reF (x:LocT)(b:List UInt8):List UInt8:=if x.rest++b=[] then [] else [126]
theorem reF_rs (x:LocT)(b:List UInt8):Rs (reF x b):=by
 unfold reF;split
 ·
  exact .inl rfl
 ·
  exact .inr rfl
theorem q8l {s:SiteT} {x:LocT} {i:Inp} {l:List Msg} (sg:SG s) (ok:LOk s x) (rs:Rs x.rest) (gd:Gd l i.bytesf) :
  qbI s x i [] [] [] [] []=some ((hF s x (ms i.bytesf) (reF x i.bytesf)).1,s,(hF s x (ms i.bytesf) (reF x i.bytesf)).2,i,[],[],[],[],[]):=by
 obtain⟨g1,g2,g3,-⟩:=gd
 obtain⟨⟨b,r⟩,e,an,la,lg,re,cy,og,sp,e2,-,-,-,sc,tk,n,f1,f2,f3,f4⟩:=qug (t:=s) (t2:=x) (t3:=i) (t4:=[]) (t5:=[]) (t6:=[]) (t7:=[]) (t8:=[]) sg ok (by omega)
 have ea:hall x i=x.rest++i.bytesf:=by
  unfold hall
  rw[List.take_of_length_le (by omega)];simp
 rw[ea] at f1 f3
 have lr:x.rest.length≤1:=by rcases rs with h|h<;>rw[h]<;>simp
 have ll:(x.rest++i.bytesf).length≤6101:=by rw[List.length_append];omega
 obtain⟨sc',e3,h1,-,h2,h3⟩:=qqU (b:=x.rest++i.bytesf) (by omega)
 rw[f1] at e3
 obtain rfl:=Option.some.inj e3
 obtain⟨h4,h5,h6⟩:=h3 (by omega)
 have em:msgs (false,false,[]) (x.rest++i.bytesf)=ms i.bytesf:=by
  rcases rs with h|h
  ·
   rw[h];exact(g3 false).2
  ·
   rw[h];rfl
 rw[em] at h4
 obtain⟨q,e4,-,-,-,h7⟩:=qlU (l:=x.any) (l2:=x.last) (l3:=x.lage) (got:=sc.1) ok.link (by omega)
 rw[f2] at e4
 obtain rfl:=Option.some.inj e4
 have h8:=h7 (by omega) h1
 simp only[Prod.mk.injEq] at h8
 obtain⟨k1,-,k2,k3,k4⟩:=h8
 have er:re=reF x i.bytesf:=by
  rw[f3]
  unfold reF
  by_cases c:x.rest++i.bytesf=[]
  ·
   rw[if_pos c,c];simp
  ·
   rw[if_neg c]
   have lp:0<(x.rest++i.bytesf).length:=List.length_pos_iff.2 c
   have e5:(x.rest++i.bytesf).getD ((x.rest++i.bytesf).length-1) 0=126:=by
    rcases g2 with h|h
    ·
     rw[h,List.append_nil] at c ⊢
     rcases rs with h'|h'
     ·
      exact absurd h' c
     ·
      rw[h'];rfl
    ·
     by_cases d:i.bytesf=[]
     ·
      rw[d] at h;simp at h
     ·
      have:=List.length_pos_iff.2 d
      rw[List.length_append,List.getD_eq_getElem?_getD,List.getElem?_append_right (by omega),show x.rest.length+i.bytesf.length-1-x.rest.length=i.bytesf.length-1 by omega,← List.getD_eq_getElem?_getD];exact h
   rw[h6 e5,if_pos (by omega)]
   have e6:(((x.rest++i.bytesf).length:Int)-1).toNat=(x.rest++i.bytesf).length-1:=by omega
   rw[e6,List.drop_eq_getElem_cons (by omega),show (x.rest++i.bytesf).length-1+1=(x.rest++i.bytesf).length by omega,List.drop_length]
   rw[List.getD_eq_getElem?_getD,List.getElem?_eq_getElem (by omega)] at e5
   exact congrArg (fun y=>[y]) e5
 rw[e]
 dsimp only at e2 f4
 rw[e2]
 rw[← h4]
 unfold hF
 dsimp only
 rw[← k1,← k2,← k3,← er]
 have k5:(if tk=[] then min (x.lage+1) 1048576 else 0)=lg:=by rw[k4,k1]
 rw[k5,← f4]
theorem not_told {s:SiteT}{x:LocT}{l:List Msg}{b re:List UInt8}(gd:Gd l b)(h:∀ y∈l,qaj s y≠some true):cfo s (false,x.cycle,x.offset,x.splits) (lfo (x.any,x.last,[]) (ms b)).2.2=(false,x.cycle,x.offset,x.splits) :=
 q43 fun m hm=>by
  rcases q8k hm with q|q
  ·
   cases q
  ·
   obtain⟨y,hy,e1,e2⟩:=gd.2.2.2 m q
   rw[qzS e1 e2];exact h y hy
end Go.Proofs.YtcdppfnjidlknaaGreatDoor
namespace Go.Proofs.YtcdppfnjidlknaaGreatDoor
open Go Go.Eng Go.Proofs Go.Wp
theorem q8m {s:SiteT}{x y:LocT}{i:Inp}{lights:List UInt8}{l:List Msg}(sg:SG s)(ok:LOk s x)(rs:Rs x.rest)(gd:Gd l i.bytesf)(w:Went s x i y lights):y.age=(if (hF s x (ms i.bytesf) (reF x i.bytesf)).1=true then 0 else min (x.age+1) 1048576)∧lnk y=lnk (hF s x (ms i.bytesf) (reF x i.bytesf)).2:=by
  obtain⟨b,h,e,e2,e3⟩:=w.age
  rw[q8l sg ok rs gd] at e
  cases e
  exact⟨e2,e3⟩
theorem ran_rs {s:SiteT}{x y:LocT}{i:Inp}{lights:List UInt8}{l:List Msg}(sg:SG s)(ok:LOk s x)(rs:Rs x.rest)(gd:Gd l i.bytesf)(ran:Ran s x i y lights):Rs y.rest:=by
  by_cases c:i.lostf=true
  · have e:=(ran.lost c).link
    have e2:y.rest=[]:=congrArg (·.2.2.2) e
    rw[e2];exact .inl rfl
  · have e:=(q8m sg ok rs gd (ran.went (by simpa using c))).2
    have e2:y.rest=reF x i.bytesf:=congrArg (·.2.2.2) e
    rw[e2];exact reF_rs _ _
theorem q8n {s:SiteT}{x:LocT}{l:List Inp}(sg:SG s)(ok:LOk s x)(h:∀ i∈l,InOk i)(r0:x.rest=[])(gd:∀ k:Nat,k<l.length→∃ m,Gd m (l.getD k (dflt 24)).bytesf):∀ k:Nat,k≤l.length→Rs (XS s x l k).rest
  |0,_=>.inl r0
  |k+1,hk=>by
    obtain⟨m,g⟩:=gd k (by omega)
    exact ran_rs sg (q2n sg ok h k (by omega)) (q8n sg ok h r0 gd k (by omega)) g (xs_ran sg ok h (by omega))
theorem q8o {l:List Inp}{m:List (List Msg)}{z:List Inp}(h:Gvn l m l.length z)(t:∀ i∈l,InT i):∀ i∈z,InT i:=by
  obtain⟨h1,h2,-⟩:=h
  intro i hi
  obtain⟨k,hk,e⟩:=List.getElem_of_mem hi
  obtain⟨e1,e2⟩:=h2 k (by omega)
  rw[qbg hk,e] at e1 e2
  have q:=t _ (qbc (l:=l) (n:=(k:Int)) (d:=dflt 24) (by omega))
  rw[Int.toNat_natCast] at q
  have b:=e2.1
  rw[e1]
  exact⟨q.1,by dsimp only;omega,q.2.2⟩
theorem q44 {l:List Inp}{m:List (List Msg)}{z:List Inp}(h:Gvn l m l.length z):∀ k:Nat,k<z.length→∃ q,Gd q (z.getD k (dflt 24)).bytesf:=fun k hk=>⟨_,(h.2.1 k (by have:=h.1;omega)).2⟩
theorem cmd_arg {s:SiteT} {x:Msg} {b:Bool} (e:qaj s {kind:=UInt8.ofNat (x.kind.toNat:Int).toNat,seq:=UInt32.ofNat (x.seq.toNat:Int).toNat,body:=x.body:Msg}=some b):qaj s x=some true↔b=true:=by
  have q:qaj s x=some b:=by rw[← e];exact qzS (by dsimp only;rw[Int.toNat_natCast,UInt8.ofNat_toNat]) rfl
  rw[q];simp
theorem q8p {m:List (List Msg)}(h:MOk m)(k:Nat):(m.getD k (dflt 11)).length≤140737488355328∧(m.length≤k→(m.getD k (dflt 11)).length=0):=by
  by_cases c:k<m.length
  · rw[qbg c];exact⟨(h.2 _ (List.getElem_mem _)).1,fun h=>by omega⟩
  · rw[List.getD_eq_getElem?_getD,List.getElem?_eq_none (by omega)]
    exact⟨Nat.zero_le _,fun _=>rfl⟩
theorem cmd_all {s:SiteT}{l:List Msg}{n:Int}(h:∀ j:Nat,(j:Int)<n→qaj s (l.getD j (dflt 8))≠some true)(g:(l.length:Int)≤n):∀ q∈l,qaj s q≠some true:=by
  intro q hq
  obtain⟨k,hk,e⟩:=List.getElem_of_mem hq
  have:=h k (by omega)
  rw[qbg hk,e] at this;exact this
theorem cmd_step {s:SiteT}{l:List Msg}{n k:Int}{x:Msg}(h:∀ j:Nat,(j:Int)<n→qaj s (l.getD j (dflt 8))≠some true)(g:0≤n)(ex:x=l.getD n.toNat (dflt 8))(c:qaj s x≠some true)(em:k=n+1):∀ j:Nat,(j:Int)<k→qaj s (l.getD j (dflt 8))≠some true:=by
  intro j hj
  by_cases d:(j:Int)=n
  · rw[show j=n.toNat by omega,← ex];exact c
  · exact h j (by omega)
theorem qw7 {s:SiteT}{m:Msg}(p0:m.body.length≤140737488355328):W (qaj s m) (fun _=>True):=by
 unfold qaj qcm
 refine qab (qde (by omega)) ?_
 rintro⟨n1,n2,n3,n4,z5⟩ hn1
 dsimp only at hn1
 refine qaa ?_
 trivial
end Go.Proofs.YtcdppfnjidlknaaGreatDoor
namespace Go.Eng
open Go
def Rl {α β:Type}(P:α→β→Prop)(o:Option α)(o':Option β):Prop:=∀ r,o=some r→∃ r',o'=some r'∧P r r'
section
variable {α β γ δ ε ζ η θ α' : Type} {P : β → γ → Prop}
theorem qaE {a:β}{b:γ}(h:P a b):Rl P (some a) (some b):=fun r e=>by cases e;exact⟨b,rfl,h⟩
theorem qa3 {b:Bool}{q:Option β}{q':Option γ}(h:Rl P q q'):Rl P (req b q) (req b q'):=by
 cases b
 ·
  intro r e;cases e
 ·
  exact h
theorem qcs {c:Bool}{x y:Option β}{x' y':Option γ}(h:Rl P x x')(g:Rl P y y'):Rl P (bif c then x else y) (bif c then x' else y'):=by
 cases c
 ·
  exact g
 ·
  exact h
theorem qao {e:α}{k:α→Option β}{k':α→Option γ}(h:∀ x,Rl P (k x) (k' x)):Rl P (DOps.ev.letv e k) (DOps.ev.letv e k'):=h e
theorem qa6 {m:Option α}{m':Option α'}{k:α→Option β}{k':α'→Option γ}{R:α→α'→Prop}(g:Rl R m m')(h:∀ x y,R x y→Rl P (k x) (k' y)):Rl P (DOps.ev.bind m k) (DOps.ev.bind m' k'):=by
 intro r e
 cases hm:m with
 |none=>subst hm;cases e
 |some a =>
  obtain⟨b,e',q⟩:=g a hm
  subst hm;subst e'
  exact h a b q r e
theorem qat {m:Option α}{k:α→Option β}{k':α→Option γ}(h:∀ x,Rl P (k x) (k' x)):Rl P (DOps.ev.bind m k) (DOps.ev.bind m k'):=qa6 (R:=Eq) (fun r e=>⟨r,e,rfl⟩) fun x y e=>by subst e;exact h x
theorem qam {m:Option (α×δ)}{k:α×δ→Option β}{k':α×δ→Option γ}(h:∀ x y,Rl P (k (x,y)) (k' (x,y))):Rl P (DOps.ev.bind m k) (DOps.ev.bind m k'):=qat fun x=>h x.1 x.2
theorem qgr {m:Option (α×δ×ε×ζ)}{k:α×δ×ε×ζ→Option β}{k':α×δ×ε×ζ→Option γ}(h:∀ x y z w,Rl P (k (x,y,z,w)) (k' (x,y,z,w))):Rl P (DOps.ev.bind m k) (DOps.ev.bind m k'):=qat fun x=>h x.1 x.2.1 x.2.2.1 x.2.2.2
theorem qnk {m:Option (α×δ×ε×ζ×η)}{k:α×δ×ε×ζ×η→Option β}{k':α×δ×ε×ζ×η→Option γ}(h:∀ x y z w u,Rl P (k (x,y,z,w,u)) (k' (x,y,z,w,u))):Rl P (DOps.ev.bind m k) (DOps.ev.bind m k'):=qat fun x=>h x.1 x.2.1 x.2.2.1 x.2.2.2.1 x.2.2.2.2
theorem qhY {k:(α→Option β)→Option β}{k':(α→Option γ)→Option γ}{J:α→Option β}{J':α→Option γ}(h:Rl P (k J) (k' J')):Rl P (DOps.ev.join k J) (DOps.ev.join k' J'):=h
theorem qru {a:Option β} {a':Option γ} {l:List (Option β)} {l':List (Option γ)} {t:Tr} (h:Rl P a a') (ht:t.fst=0:=by rfl):Rl P (sm DOps.ev (a::l) t) (sm DOps.ev (a'::l') t):=by
 rw[smE ht,smE ht];exact h
theorem qdl {n:Int}{k:Int→Option β}{k':Int→Option γ}(h:∀ x,Rl P (k x) (k' x)):Rl P (inc DOps.ev n k) (inc DOps.ev n k'):=h _
theorem q5c {z:List α}{n:Int}{d:α}{k:α→Option β}{k':α→Option γ}(h:∀ x,Rl P (k x) (k' x)):Rl P (ix DOps.ev z n d k) (ix DOps.ev z n d k'):=qa3 (qa3 (h _))
theorem qdH {n:Int}{l:Nat}{q:Option β}{q':Option γ}(h:Rl P q q'):Rl P (rb n l q) (rb n l q'):=qa3 (qa3 h)
theorem Rl_rm {n l:Nat}{q:Option β}{q':Option γ}(h:Rl P q q'):Rl P (rm n l q) (rm n l q'):=qa3 h
theorem qa1 {n l:Nat}{q:Option β}{q':Option γ}(h:Rl P q q'):Rl P (rs n l q) (rs n l q'):=qa3 h
theorem q7j {V V':Type}{F:(V→Option β)→V→Option β}{F':(V'→Option γ)→V'→Option γ}(p:V→V')(h:∀ r r',(∀ w,Rl P (r w) (r' (p w)))→∀ w,Rl P (F r w) (F' r' (p w))):∀ n v,Rl P (fixN F n v) (fixN F' n (p v))
 |0,v=>fun r e=>by cases e
 |n+1,v=>h _ _ (q7j p h n) v
theorem qoC {V V':Type}{v:V}{v':V'}{F:(V→Option β)→V→Option β}{F':(V'→Option γ)→V'→Option γ}(p:V→V')(e:v'=p v)(h:∀ r r',(∀ w,Rl P (r w) (r' (p w)))→∀ w,Rl P (F r w) (F' r' (p w))):Rl P (DOps.ev.fix v F) (DOps.ev.fix v' F'):=by
 subst e;exact q7j p h NN v
end
end Go.Eng
namespace Go.Proofs.YtcdppfnjidlknaaGreatDoor
open Go Go.Eng Go.Proofs
def un (p:Bool→Bool)(q r:Int→Int)(w:List UInt8→List UInt8)(x:LocT):LocT:={x with any:=p x.any,last:=q x.last,lage:=r x.lage,rest:=w x.rest}
def bn (d:List UInt8)(i:Inp):Inp:={i with bytesf:=d}
def tn (p:Bool→Bool)(q r:Int→Int)(w:List UInt8→List UInt8)(d:List UInt8)(t:TickT):TickT:={t with loc:=un p q r w t.loc,inp:=bn d t.inp}
section
variable {p : Bool → Bool} {q r : Int → Int} {w : List UInt8 → List UInt8} {d : List UInt8}
abbrev cn (p:Bool→Bool)(q r:Int→Int)(w:List UInt8→List UInt8)(d:List UInt8):SiteT×List UInt8×List SeenT×Int×Bool×Int×Int×Bool×Int×Int×Bool×Int×Int×List UInt8×Int×Int×List Int×Int×List Pls×List Lkd×List Gpd×Int×Int×Int×Int×Inp×List Put×List Pls×List UInt8×List UInt8×List UInt8×List Int×List Int×List Int→SiteT×List UInt8×List SeenT×Int×Bool×Int×Int×Bool×Int×Int×Bool×Int×Int×List UInt8×Int×Int×List Int×Int×List Pls×List Lkd×List Gpd×Int×Int×Int×Int×Inp×List Put×List Pls×List UInt8×List UInt8×List UInt8×List Int×List Int×List Int:=fun(a0,a1,a2,a3,a4,a5,a6,a7,a8,a9,a10,a11,a12,a13,a14,a15,a16,a17,a18,a19,a20,a21,a22,a23,a24,a25,a26,a27,a28,a29,a30,a31,a32,a33)=>(a0,a1,a2,a3,a4,a5,a6,a7,a8,a9,p a10,q a11,r a12,w a13,a14,a15,a16,a17,a18,a19,a20,a21,a22,a23,a24,bn d a25,a26,a27,a28,a29,a30,a31,a32,a33)
theorem qfD {t:SiteT}{t2:LocT}{t3:Inp}{t4:List Put}{t5:List Pls}{t6:List UInt8}{t7:List UInt8}{t8:List UInt8}:Rl (fun a b=>b=(a.1,a.2.1,un p q r w a.2.2.1,bn d a.2.2.2.1,a.2.2.2.2)) (qcl t t2 t3 t4 t5 t6 t7 t8) (qcl t (un p q r w t2) (bn d t3) t4 t5 t6 t7 t8):=by
 unfold qcl qha
 exact qat fun _=>qaE rfl
theorem qxs {t:SiteT}{t2:LocT}{t3:Inp}{t4:List Put}{t5:List Pls}{t6:List UInt8}{t7:List UInt8}{t8:List UInt8}:Rl (fun a b=>b=(a.1,un p q r w a.2.1,bn d a.2.2.1,a.2.2.2)) (qed t t2 t3 t4 t5 t6 t7 t8) (qed t (un p q r w t2) (bn d t3) t4 t5 t6 t7 t8):=by
 unfold qed qhr
 exact qgr fun _ _ _ _=>qa3 (qao fun _=>qcs (qat fun _=>qcs (qaE rfl) (qam fun _ _=>qaE rfl)) (qam fun _ _=>qaE rfl))
theorem q0N {t:TickT}:Rl (Eq) (qgU t) (qgU (tn p q r w d t)):=by
 unfold qgU qjL
 exact qoC (fun(_,_,x2,n3,z4,n5,n6,_)=>((),(),tn p q r w d x2,n3,z4,n5,n6,())) rfl fun _ _ hr1 (_,_,_,_,_,_,_,_)=>qcs (q5c fun _=>qoC (fun(_,((x9,_),_),x10,n11,n12,b13,z14,n15,n16,z17,n18,n19,_)=>((),((x9,()),()),tn p q r w d x10,n11,n12,b13,z14,n15,n16,z17,n18,n19,())) rfl fun _ _ hr8 (_,((_,_),_),_,_,_,_,_,_,_,_,_,_,_)=>qcs (q5c fun _=>q5c fun _=>qam fun _ _=>qdl fun _=>hr8 _) (qcs (qa3 (qao fun _=>qao fun _=>qdl fun _=>hr1 _)) (qdl fun _=>hr1 _))) (qaE rfl)
theorem qsj {t:SiteT}{t2:LocT}{t3:Inp}{t4:List Put}{t5:List Pls}{t6:List UInt8}{t7:List UInt8}{t8:List UInt8}:Rl (fun a b=>b=(a.1,un p q r w a.2.1,bn d a.2.2.1,a.2.2.2)) (qfX t t2 t3 t4 t5 t6 t7 t8) (qfX t (un p q r w t2) (bn d t3) t4 t5 t6 t7 t8):=by
 unfold qfX qnN
 exact qat fun _=>qat fun _=>qat fun _=>qa1 (qa1 (qoC (fun((z5,z6,_),((x7,z8,z9,n10,b11,n12,n13,b14,n15,n16,b17,n18,n19,z20,n21,n22,z23,n24,z25,n26,n27,n28,z29,z30,z31,n32,x33,z34,z35,z36,z37,z38,_),_),n39,n40,n41,_)=>((z5,z6,()),((x7,z8,z9,n10,b11,n12,n13,b14,n15,n16,p b17,q n18,r n19,w z20,n21,n22,z23,n24,z25,n26,n27,n28,z29,z30,z31,n32,bn d x33,z34,z35,z36,z37,z38,()),()),n39,n40,n41,())) rfl fun _ _ hr4 ((_,_,_),((_,_,_,_,_,_,_,_,_,_,_,_,_,_,_,_,_,_,_,_,_,_,_,_,_,_,_,_,_,_,_,_,_),_),_,_,_,_)=>qcs (qdH (qa3 (qa3 (qao fun _=>qao fun _=>qam fun _ _=>qdH (qa3 (qao fun _=>qdH (qa3 (qdH (qa3 (qam fun _ _=>qdH (qa3 (qao fun _=>qdH (qa3 (qcs (qa3 (qao fun _=>qao fun _=>qdl fun _=>qa1 (qa1 (hr4 _)))) (qdl fun _=>qa1 (qa1 (hr4 _))))))))))))))))) (qam fun _ _=>qam fun _ _=>qcs (qam fun _ _=>qaE rfl) (qam fun _ _=>qaE rfl))))
theorem qme {t:SiteT}{t2:LocT}{t3:Inp}{t4:List Put}{t5:List Pls}{t6:List UInt8}{t7:List UInt8}{t8:List UInt8}:Rl (fun a b=>b=(a.1,un p q r w a.2.1,bn d a.2.2.1,a.2.2.2)) (qcn t t2 t3 t4 t5 t6 t7 t8) (qcn t (un p q r w t2) (bn d t3) t4 t5 t6 t7 t8):=by
 unfold qcn qbV
 exact qoC (fun((z2,_),((x3,x4,x5,z6,z7,z8,z9,z10,_),(b11,b12,b13,b14,_),(n15,n16,z17,_),_),z18,n19,n20,_)=>((z2,()),((x3,un p q r w x4,bn d x5,z6,z7,z8,z9,z10,()),(b11,b12,b13,b14,()),(n15,n16,z17,()),()),z18,n19,n20,())) rfl fun _ _ hr1 ((_,_),((_,_,_,_,_,_,_,_,_),(_,_,_,_,_),(_,_,_,_),_),_,_,_,_)=>qcs (q5c fun _=>Rl_rm (qao fun _=>qdl fun _=>qa1 (hr1 _))) (qam fun _ _=>qcs (qat fun _=>qam fun _ _=>qgr fun _ _ _ _=>qam fun _ _=>qhY (qru (qat fun _=>qru (qaE rfl)))) (qam fun _ _=>qgr fun _ _ _ _=>qam fun _ _=>qhY (qru (qat fun _=>qru (qaE rfl)))))
theorem qsk {t:SiteT}{t2:LocT}{t3:Inp}{t4:List Put}{t5:List Pls}{t6:List UInt8}{t7:List UInt8}{t8:List UInt8}{k:Int}{k2:Int}{k3:List Plan}:Rl (fun a b=>b=(a.1,un p q r w a.2.1,bn d a.2.2.1,a.2.2.2)) (qfY t t2 t3 t4 t5 t6 t7 t8 k k2 k3) (qfY t (un p q r w t2) (bn d t3) t4 t5 t6 t7 t8 k k2 k3):=by
 unfold qfY qnP
 exact qcs (qa6 qfD fun(_,_,_,_,_,_,_,_,_) _ e=>by subst e;exact qaE rfl) (qcs (qhY (qa6 q0N fun _ _ e=>by subst e;exact qgr fun _ _ _ _=>qaE rfl)) (qcs (qa3 (qao fun _=>qam fun _ _=>qam fun _ _=>qam fun _ _=>qaE rfl)) (qam fun _ _=>qam fun _ _=>qaE rfl)))
theorem qoD {t:SiteT}{t2:LocT}{t3:Inp}{t4:List Put}{t5:List Pls}{t6:List UInt8}{t7:List UInt8}{t8:List UInt8}:Rl (fun a b=>b=(a.1,a.2.1,bn d a.2.2.1,a.2.2.2)) (qd9 t t2 t3 t4 t5 t6 t7 t8) (qd9 t (un p q r w t2) (bn d t3) t4 t5 t6 t7 t8):=by
 unfold qd9 qda
 exact qao fun _=>qao fun _=>qao fun _=>qao fun _=>qcs (qhY (qru (qam fun _ _=>qat fun _=>qa6 (qfD (p:=fun x=>x) (q:=fun x=>x) (r:=fun x=>x) (w:=fun x=>x)) fun(_,_,_,_,_,_,_,_,_) _ e=>by subst e;exact qnk fun _ _ _ _ _=>qhY (qru (qat fun _=>qru (qaE rfl)))))) (qhY (qru (qam fun _ _=>qat fun _=>qa6 (qfD (p:=fun x=>x) (q:=fun x=>x) (r:=fun x=>x) (w:=fun x=>x)) fun(_,_,_,_,_,_,_,_,_) _ e=>by subst e;exact qnk fun _ _ _ _ _=>qhY (qru (qat fun _=>qru (qaE rfl))))))
theorem qmf {t:SiteT}{t2:LocT}{t3:Inp}{t4:List Put}{t5:List Pls}{t6:List UInt8}{t7:List UInt8}{t8:List UInt8}:Rl (fun a b=>b=cn p q r w d a) (qdb t t2 t3 t4 t5 t6 t7 t8) (qdb t (un p q r w t2) (bn d t3) t4 t5 t6 t7 t8):=by
 unfold qdb qhw
 exact qat fun _=>qat fun _=>qat fun _=>qa1 (qa1 (qa1 (qoC (fun((z5,z6,z7,_),((x8,z9,z10,n11,b12,n13,n14,b15,n16,n17,b18,n19,n20,z21,n22,n23,z24,n25,z26,z27,z28,n29,n30,n31,n32,x33,z34,z35,z36,z37,z38,_),_),n39,n40,_)=>((z5,z6,z7,()),((x8,z9,z10,n11,b12,n13,n14,b15,n16,n17,p b18,q n19,r n20,w z21,n22,n23,z24,n25,z26,z27,z28,n29,n30,n31,n32,bn d x33,z34,z35,z36,z37,z38,()),()),n39,n40,())) rfl fun _ _ hr4 ((_,_,_,_),((_,_,_,_,_,_,_,_,_,_,_,_,_,_,_,_,_,_,_,_,_,_,_,_,_,_,_,_,_,_,_,_),_),_,_,_)=>qcs (qam fun _ _=>qcs (qdl fun _=>qa1 (qa1 (qa1 (hr4 _)))) (qa1 (qa1 (qa1 (qoC (fun((z44,z45,z46,_),((x47,z48,z49,n50,b51,n52,n53,b54,n55,n56,b57,n58,n59,z60,n61,n62,z63,n64,z65,z66,z67,n68,n69,n70,n71,x72,z73,z74,z75,z76,z77,_),_),n78,b79,n80,n81,z82,n83,n84,_)=>((z44,z45,z46,()),((x47,z48,z49,n50,b51,n52,n53,b54,n55,n56,p b57,q n58,r n59,w z60,n61,n62,z63,n64,z65,z66,z67,n68,n69,n70,n71,bn d x72,z73,z74,z75,z76,z77,()),()),n78,b79,n80,n81,z82,n83,n84,())) rfl fun _ _ hr43 ((_,_,_,_),((_,_,_,_,_,_,_,_,_,_,_,_,_,_,_,_,_,_,_,_,_,_,_,_,_,_,_,_,_,_,_,_),_),_,_,_,_,_,_,_,_)=>qcs (q5c fun _=>qa3 (qao fun _=>qcs (q5c fun _=>qcs (qdH (qa3 (qao fun _=>qat fun _=>qdH (qa3 (qao fun _=>qdl fun _=>qa1 (qa1 (qa1 (hr43 _)))))))) (qdl fun _=>qa1 (qa1 (qa1 (hr43 _))))) (qdl fun _=>qa1 (qa1 (qa1 (hr43 _)))))) (qcs (qdH (qa3 (qao fun _=>qat fun _=>qdH (qa3 (qao fun _=>qdH (qa3 (qao fun _=>qat fun _=>qdH (qa3 (qao fun _=>qdl fun _=>qa1 (qa1 (qa1 (hr4 _)))))))))))) (qdH (qa3 (qao fun _=>qat fun _=>qdH (qa3 (qao fun _=>qdl fun _=>qa1 (qa1 (qa1 (hr4 _)))))))))))))) (qa1 (qa1 (qa1 (qaE rfl)))))))
theorem qoE {greens:List Int}{busy:List Int}{came:List Int}{t:SiteT}{t2:List UInt8}{t3:List SeenT}{t4:Int}{t5:Bool}{t6:Int}{t7:Int}{t8:Bool}{t9:Int}{t10:Int}{t11:Bool}{t12:Int}{t13:Int}{t14:List UInt8}{t15:Int}{t16:Int}{t17:List Int}{t18:Int}{t19:List Pls}{t20:List Lkd}{t21:List Gpd}{t22:Int}{t23:Int}{t24:Int}{t25:Int}{t26:Inp}{t27:List Put}{t28:List Pls}{t29:List UInt8}{t30:List UInt8}{t31:List UInt8}:Rl (fun a b=>b=cn p q r w d a) (qeS greens busy came t t2 t3 t4 t5 t6 t7 t8 t9 t10 t11 t12 t13 t14 t15 t16 t17 t18 t19 t20 t21 t22 t23 t24 t25 t26 t27 t28 t29 t30 t31) (qeS greens busy came t t2 t3 t4 t5 t6 t7 t8 t9 t10 (p t11) (q t12) (r t13) (w t14) t15 t16 t17 t18 t19 t20 t21 t22 t23 t24 t25 (bn d t26) t27 t28 t29 t30 t31):=by
 unfold qeS qjS
 exact qam fun _ _=>qdl fun _=>qa3 (qao fun _=>qcs (qa1 (qa1 (qa1 (qaE rfl)))) (qa1 (qa1 (qa1 (qoC (fun((z6,z7,z8,z9,_),((x10,z11,z12,n13,b14,n15,n16,b17,n18,n19,b20,n21,n22,z23,n24,n25,z26,n27,z28,z29,z30,n31,n32,n33,n34,x35,z36,z37,z38,z39,z40,_),(n41,n42,n43,_),_),n44,n45,n46,_)=>((z6,z7,z8,z9,()),((x10,z11,z12,n13,b14,n15,n16,b17,n18,n19,p b20,q n21,r n22,w z23,n24,n25,z26,n27,z28,z29,z30,n31,n32,n33,n34,bn d x35,z36,z37,z38,z39,z40,()),(n41,n42,n43,()),()),n44,n45,n46,())) rfl fun _ _ hr5 ((_,_,_,_,_),((_,_,_,_,_,_,_,_,_,_,_,_,_,_,_,_,_,_,_,_,_,_,_,_,_,_,_,_,_,_,_,_),(_,_,_,_),_),_,_,_,_)=>qcs (qdH (qa3 (qao fun _=>qdH (qa3 (qao fun _=>qdH (qa3 (qao fun _=>qao fun _=>qao fun _=>qdH (qa3 (qao fun _=>qao fun _=>qat fun _=>qat fun _=>qam fun _ _=>Rl_rm (qao fun _=>qdH (qa3 (qao fun _=>qdH (qa3 (qao fun _=>qdH (qa3 (qao fun _=>qdl fun _=>qa1 (qa1 (qa1 (qa1 (hr5 _)))))))))))))))))))) (qam fun _ _=>qam fun _ _=>qa1 (qa1 (qa1 (qaE rfl)))))))))
theorem q5d {t:SiteT}{t2:LocT}{t3:Inp}{t4:List Put}{t5:List Pls}{t6:List UInt8}{t7:List UInt8}{t8:List UInt8}{y:LocT}{j:Inp}(hh:Rl (fun a b=>b=(a.1,a.2.1,un p q r w a.2.2.1,bn d a.2.2.2.1,a.2.2.2.2)) (qbI t t2 t3 t4 t5 t6 t7 t8) (qbI t y j t4 t5 t6 t7 t8)):Rl (fun a b=>(b.2.1=un p q r w a.2.1∨b.2.1=a.2.1)∧b.2.2.2.2.2.2.1=a.2.2.2.2.2.2.1) (qfZ t t2 t3 t4 t5 t6 t7 t8) (qfZ t y j t4 t5 t6 t7 t8):=by
 unfold qfZ qnR
 exact qa6 hh fun(_,_,_,_,_,_,_,_,_) _ e=>by subst e;exact qcs (qa6 qxs fun(_,_,_,_,_,_,_,_) _ e=>by subst e;exact qcs (qa6 qoD fun(_,_,_,_,_,_,_,_) _ e=>by subst e;exact qaE ⟨by first|exact .inr rfl|exact .inl rfl,rfl⟩) (qam fun _ _=>qa6 qsj fun(_,_,_,_,_,_,_,_) _ e=>by subst e;exact qa6 qme fun(_,_,_,_,_,_,_,_,_,_,_,_,_,_,_) _ e=>by subst e;exact qgr fun _ _ _ _=>qa6 qsk fun(_,_,_,_,_,_,_,_) _ e=>by subst e;exact qam fun _ _=>qnk fun _ _ _ _ _=>qa6 qmf fun(_,_,_,_,_,_,_,_,_,_,_,_,_,_,_,_,_,_,_,_,_,_,_,_,_,_,_,_,_,_,_,_,_,_) _ e=>by subst e;exact qa1 (qa1 (qa1 (qa6 qoE fun(_,_,_,_,_,_,_,_,_,_,_,_,_,_,_,_,_,_,_,_,_,_,_,_,_,_,_,_,_,_,_,_,_,_) _ e=>by subst e;exact qat fun _=>qaE ⟨by first|exact .inr rfl|exact .inl rfl,rfl⟩))))) (qcs (qa6 qoD fun(_,_,_,_,_,_,_,_) _ e=>by subst e;exact qaE ⟨by first|exact .inr rfl|exact .inl rfl,rfl⟩) (qam fun _ _=>qa6 qsj fun(_,_,_,_,_,_,_,_) _ e=>by subst e;exact qa6 qme fun(_,_,_,_,_,_,_,_,_,_,_,_,_,_,_) _ e=>by subst e;exact qgr fun _ _ _ _=>qa6 qsk fun(_,_,_,_,_,_,_,_) _ e=>by subst e;exact qam fun _ _=>qnk fun _ _ _ _ _=>qa6 qmf fun(_,_,_,_,_,_,_,_,_,_,_,_,_,_,_,_,_,_,_,_,_,_,_,_,_,_,_,_,_,_,_,_,_,_) _ e=>by subst e;exact qa1 (qa1 (qa1 (qa6 qoE fun(_,_,_,_,_,_,_,_,_,_,_,_,_,_,_,_,_,_,_,_,_,_,_,_,_,_,_,_,_,_,_,_,_,_) _ e=>by subst e;exact qat fun _=>qaE ⟨by first|exact .inr rfl|exact .inl rfl,rfl⟩)))))
end
end Go.Proofs.YtcdppfnjidlknaaGreatDoor
namespace Go.Proofs.YtcdppfnjidlknaaGreatDoor
open Go Go.Eng Go.Proofs Go.Wp
theorem stp_rl {s:SiteT} {x y x':LocT} {i:Inp} {b:Bool} {d:List UInt8} {p:Bool→Bool} {q r:Int→Int} {w:List UInt8→List UInt8} (sg:SG s) (ok:LOk s x) (io:InOk i) (hx:qbI s x i [] [] [] [] []=some (b,s,x',i,[],[],[],[],[])) (hy:qbI s y (bn d i) [] [] [] [] []=some (b,s,un p q r w x',bn d i,[],[],[],[],[])) :
    ((stp s y (bn d i)).1=un p q r w (stp s x i).1∨(stp s y (bn d i)).1=(stp s x i).1)∧(stp s y (bn d i)).2=(stp s x i).2:=by
  obtain⟨v,e,-,-⟩:=qqX sg ok io rfl rfl rfl rfl rfl
  obtain⟨v',e',h1,h2⟩:=q5d (p:=p) (q:=q) (r:=r) (w:=w) (d:=d) (fun a ha=>by
    rw[hx] at ha
    cases ha
    exact⟨_,hy,rfl⟩) v e
  unfold stp
  rw[e,e']
  exact⟨h1,h2⟩
def EqL (x y:LocT):Prop:=∃ p q r w,y=un p q r w x
theorem q8q {s:SiteT}{x:LocT}{l:List Msg}{b re:List UInt8}(gd:Gd l b)(h:∀ y∈l,qaj s y≠some true):∃ A L G,hF s x (ms b) re=(false,un (fun _=>A) (fun _=>L) (fun _=>G) (fun _=>re) {x with age:=min (x.age+1) 1048576}):=by
  refine⟨(lfo (x.any,x.last,[]) (ms b)).1,(lfo (x.any,x.last,[]) (ms b)).2.1,if (lfo (x.any,x.last,[]) (ms b)).2.2=[] then min (x.lage+1) 1048576 else 0,?_⟩
  unfold hF
  dsimp only
  rw[not_told (re:=re) gd h]
  rfl
theorem qqZ {s:SiteT} {x y:LocT} {i:Inp} {d:List UInt8} {l k:List Msg} (sg:SG s) (ok:LOk s x) (oy:LOk s y) (rx:Rs x.rest) (ry:Rs y.rest) (io:InOk i) (gi:Gd l i.bytesf) (gj:Gd k d) (hl:∀ m∈l,qaj s m≠some true) (hk:∀ m∈k,qaj s m≠some true) (e:EqL x y) :
    EqL (stp s x i).1 (stp s y (bn d i)).1∧(stp s y (bn d i)).2=(stp s x i).2:=by
  obtain⟨p,q,r,w,rfl⟩:=e
  have hx:=q8l sg ok rx gi
  have hy:=q8l (i:=bn d i) sg oy ry gj
  obtain⟨A,L,G,e1⟩:=q8q (x:=x) (re:=reF x i.bytesf) gi hl
  obtain⟨A',L',G',e2⟩:=q8q (x:=un p q r w x) (re:=reF (un p q r w x) d) gj hk
  rw[e1] at hx
  rw[show (bn d i).bytesf=d from rfl,e2] at hy
  obtain⟨h1,h2⟩:=stp_rl (p:=fun _=>A') (q:=fun _=>L') (r:=fun _=>G') (w:=fun _=>reF (un p q r w x) d) sg ok io hx hy
  refine⟨?_,h2⟩
  rcases h1 with h|h
  · exact⟨_,_,_,_,h⟩
  · exact⟨fun a=>a,fun a=>a,fun a=>a,fun a=>a,h⟩
theorem q8r {l:List Inp}{m k:List (List Msg)}{z n:List Inp}(h:Gvn l m l.length z)(g:Gvn l k l.length n){j:Nat}(hj:j<l.length):n.getD j (dflt 24)=bn (n.getD j (dflt 24)).bytesf (z.getD j (dflt 24)):=by
  have e1:=(h.2.1 j (by omega)).1
  have e2:=(g.2.1 j (by omega)).1
  rw[e1]
  exact e2
def NoC (s:SiteT)(m:List (List Msg)):Prop:=∀ x∈m,∀ y∈x,qaj s y≠some true
theorem qw8 {s:SiteT}{m:List (List Msg)}(h:NoC s m)(k:Nat):∀ y∈m.getD k (dflt 11),qaj s y≠some true:=by
  by_cases c:k<m.length
  · rw[qbg c];exact h _ (List.getElem_mem _)
  · rw[List.getD_eq_getElem?_getD,List.getElem?_eq_none (by omega)]
    intro y hy;cases hy
theorem qul {s:SiteT}{x:LocT}{l:List Inp}{m k:List (List Msg)}{z n:List Inp}(sg:SG s)(nw:LNew s x)(iz:∀ i∈z,InOk i)(im:∀ i∈n,InOk i)(h:Gvn l m l.length z)(g:Gvn l k l.length n)(hm:NoC s m)(hk:NoC s k):∀ j:Nat,j≤l.length→EqL (XS s x z j) (XS s x n j)∧(j<l.length→LS s x n j=LS s x z j)
  |0,_=>by
    have e:EqL (XS s x z 0) (XS s x n 0):=⟨fun a=>a,fun a=>a,fun a=>a,fun a=>a,rfl⟩
    refine⟨e,fun hj=>?_⟩
    have l1:=h.1
    have l2:=g.1
    have:=(qqZ sg (q2n sg nw.ok iz 0 (by omega)) (q2n sg nw.ok im 0 (by omega)) (q8n sg nw.ok iz nw.link.2.2.2 (q44 h) 0 (by omega)) (q8n sg nw.ok im nw.link.2.2.2 (q44 g) 0 (by omega)) (by rw[qbg (show 0<z.length by omega)];exact iz _ (List.getElem_mem _)) (h.2.1 0 (by omega)).2 (g.2.1 0 (by omega)).2 (qw8 hm 0) (qw8 hk 0) e).2
    unfold LS
    rw[q8r h g hj];exact this
  |j+1,hj=>by
    have l1:=h.1
    have l2:=g.1
    have st:=fun(j:Nat) (hj:j<l.length) (e:EqL (XS s x z j) (XS s x n j))=>qqZ sg (q2n sg nw.ok iz j (by omega)) (q2n sg nw.ok im j (by omega)) (q8n sg nw.ok iz nw.link.2.2.2 (q44 h) j (by omega)) (q8n sg nw.ok im nw.link.2.2.2 (q44 g) j (by omega)) (by rw[qbg (show j<z.length by omega)];exact iz _ (List.getElem_mem _)) (h.2.1 j (by omega)).2 (g.2.1 j (by omega)).2 (qw8 hm j) (qw8 hk j) e
    have e:EqL (XS s x z (j+1)) (XS s x n (j+1)):=by
      have:=(st j (by omega) (qul sg nw iz im h g hm hk j (by omega)).1).1
      rw[← q8r h g (by omega)] at this;exact this
    refine⟨e,fun hj2=>?_⟩
    have:=(st (j+1) hj2 e).2
    unfold LS
    rw[q8r h g hj2];exact this
theorem two_runs {s:SiteT} {d:List UInt8} {z n:List Inp} {r r':List (List UInt8)×List UInt8×Int} (h:(∃ e x0,e≠0∧qb6 s d=some (e,x0)∧r=([],[],e))∨Run s d z r) (g:(∃ e x0,e≠0∧qb6 s d=some (e,x0)∧r'=([],[],e))∨Run s d n r') (len:z.length=n.length)
    (q:SG s→∀ x,LNew s x→∀ j:Nat,j<z.length→LS s x n j=LS s x z j∧(XS s x n (j+1)).mode=(XS s x z (j+1)).mode):r=r':=by
  rcases h with ⟨e,x0,h1,h2,rfl⟩|h
  · rcases g with ⟨e',y0,g1,g2,rfl⟩|g
    · rw[h2] at g2;cases g2;rfl
    · obtain⟨y0,g2,-,-⟩:=g.new
      rw[h2] at g2;cases g2;exact absurd rfl h1
  · obtain⟨x0,h2,nw,rfl⟩:=h.new
    rcases g with ⟨e',y0,g1,g2,rfl⟩|g
    · rw[h2] at g2;cases g2;exact absurd rfl g1
    · obtain⟨y0,g2,-,rfl⟩:=g.new
      rw[h2] at g2;cases g2
      rw[← len]
      have a1:(List.range z.length).map (LS s x0 z)=(List.range z.length).map (LS s x0 n):=List.map_congr_left fun j hj=>((q h.sg x0 nw j (List.mem_range.1 hj)).1).symm
      have a2:(List.range z.length).map (MS s x0 z)=(List.range z.length).map (MS s x0 n):=List.map_congr_left fun j hj=>by
        unfold MS
        rw[(q h.sg x0 nw j (List.mem_range.1 hj)).2]
      rw[a1,a2]
theorem run_len {s:SiteT}{d:List UInt8}{z:List Inp}{r:List (List UInt8)×List UInt8×Int}(h:(∃ e x0,e≠0∧qb6 s d=some (e,x0)∧r=([],[],e))∨Run s d z r)(l:z.length≤200):r.1.length≤200:=by
  rcases h with ⟨e,x0,h1,h2,rfl⟩|h
  · simp
  · obtain⟨x0,-,-,rfl⟩:=h.new
    dsimp only;rw[rng_len];exact l
theorem qrO {s:SiteT}{d:List UInt8}{l:List Inp}{m:List (List Msg)}(p0:SWf s)(p1:∀ i∈l,InT i)(p2:l.length*88≤140737488355328)(p3:MOk m):W (qgb s d l m) (fun r=>r=true):=by
 unfold qgb qeZ
 refine qb8 (alive_ok) ?_
 refine W_if (fun c1=>?_) fun c1=>?_
 ·exact absurd rfl c1
 ·refine qak (fun v=>∃ n8,v=((),((s,()),(d,()),()),l,m,true,n8,())∧(0≤n8∧n8≤m.length)∧(∀ k:Nat,(k:Int)<n8→∀ y∈m.getD k (dflt 11),qaj s y≠some true)) (fun(_,((_,_),(_,_),_),_,_,_,n8,_)=>(m.length-n8).toNat) ⟨_,rfl,by omega,fun k hk=>by omega⟩ (by simp only[NN];have:=p3.1;omega) ?_
  rintro r2 _ ⟨n8,rfl,hr2_0,hr2_1⟩ ihr2
  have pm:=p3.1
  refine W_if (fun c2=>?_) fun c2=>?_
  ·refine qak (fun v=>∃ n29,v=((),((s,()),(d,()),()),l,m,true,n8,n29,())∧(0≤n29∧n29≤(m.getD n8.toNat (dflt 11)).length)∧(∀ j:Nat,(j:Int)<n29→qaj s ((m.getD n8.toNat (dflt 11)).getD j (dflt 8))≠some true)) (fun(_,((_,_),(_,_),_),_,_,_,_,n29,_)=>(((m.getD n8.toNat (dflt 11)).length:Int)-n29).toNat) ⟨_,rfl,by omega,fun j hj=>by omega⟩ (by simp only[NN];have:=(q8p p3 n8.toNat).1;omega) ?_
   rintro r22 _ ⟨n29,rfl,hr22_0,hr22_1⟩ ihr22
   have mb:=(q8p p3 n8.toNat).1
   refine W_ix (by omega) fun z30 hz30=>?_
   subst hz30
   refine W_if (fun c3=>?_) fun c3=>?_
   ·refine W_ix (by omega) fun z32 hz32=>?_
    subst hz32
    refine W_ix (by omega) fun x33 hx33=>?_
    have g33:=(p3.2 (m.getD n8.toNat (dflt 11)) (qbc (by omega))).2 x33 (by rw[hx33];exact qbc (by omega))
    refine qab (qlT (qw7 (by dsimp only;omega))) ?_
    rintro b34 hb34
    obtain⟨-,e34⟩:=hb34
    have q34:=cmd_arg e34
    refine W_if (fun c4=>?_) fun c4=>?_
    ·refine qaa ?_
     rfl
    ·refine qah (by omega) fun n35 hn35=>?_
     exact ihr22.use _ ⟨_,rfl,by omega,cmd_step hr22_1 (by omega) hx33 (fun e=>c4 (q34.1 e)) hn35⟩ (by dsimp only;omega)
   ·refine qah (by omega) fun n31 hn31=>?_
    exact ihr2.use _ ⟨_,rfl,by omega,fun k hk=>by
       by_cases e:(k:Int)=n8
       · rw[show k=n8.toNat by omega];exact cmd_all hr22_1 (by omega)
       · exact hr2_1 k (by omega)⟩ (by dsimp only;omega)
  ·have noc:NoC s m:=by
    intro x hx
    obtain⟨k,hk,e⟩:=List.getElem_of_mem hx
    have:=hr2_1 k (by omega)
    rw[qbg hk,e] at this;exact this
   refine qab (quk p2 p3) ?_
   rintro⟨z9,b10⟩ hz9
   dsimp only at hz9
   refine qab (quk p2 ⟨by simp,fun x hx=>by cases hx⟩) ?_
   rintro⟨z11,b12⟩ hz11
   dsimp only at hz11
   refine W_if (fun c5=>?_) fun c5=>?_
   ·refine qaa ?_
    rfl
   ·have gv:=hz9.1 (Classical.not_not.1 c5)
    have gn:=hz11.1 (hz11.2 rfl)
    have lt:(List.take z9.length z9)=z9:=List.take_length
    have ln:(List.take z11.length z11)=z11:=List.take_length
    have pz:=q8o gv p1
    have pn:=q8o gn p1
    refine qab (qzP (by rw[lt];exact pz)) ?_
    rintro b13 hb13
    rw[lt] at hb13
    refine W_if (fun c6=>?_) fun c6=>?_
    ·refine qaa ?_
     rfl
    ·have ft:=hb13 (Classical.not_not.1 c6)
     refine qab (qzP (by rw[ln];exact pn)) ?_
     rintro b14 hb14
     rw[ln] at hb14
     refine W_if (fun c7=>?_) fun c7=>?_
     ·refine qaa ?_
      rfl
     ·have fn:=hb14 (Classical.not_not.1 c7)
      refine qab (qui ft.1 p0 (by have:=ft.2.1;omega) (by rw[lt];have:=ft.2.2.1;omega) (by rw[lt];exact q41 ft pz)) ?_
      rintro⟨z15,z16,n17⟩ hz15
      rw[lt] at hz15
      refine qab (qui fn.1 p0 (by have:=fn.2.1;omega) (by rw[ln];have:=fn.2.2.1;omega) (by rw[ln];exact q41 fn pn)) ?_
      rintro⟨z18,z19,n20⟩ hz18
      rw[ln] at hz18
      have tr:=two_runs hz15 hz18 (gv.1.trans gn.1.symm) (fun sg x nw j hj=>by
       have a:=qul sg nw (q41 ft pz) (q41 fn pn) gv gn noc (fun x hx=>by cases hx)
       refine⟨(a j (by have:=gv.1;omega)).2 (by have:=gv.1;omega),?_⟩
       obtain⟨p,q,r,w,e⟩:=(a (j+1) (by have:=gv.1;omega)).1
       rw[e];rfl)
      simp only[Prod.mk.injEq] at tr
      obtain⟨t1,t2,t3⟩:=tr
      have ll:=run_len hz15 ft.2.2.1
      dsimp only at ll
      subst t1;subst t2;subst t3
      refine W_if (fun c8=>?_) fun c8=>?_
      ·refine qab (q8j (by omega) (by omega) (fun _ _=>rfl)) ?_
       rintro b21 hb21
       refine qaa ?_
       subst hb21;simp
      ·refine qaa ?_
       exact absurd ⟨⟨rfl,rfl⟩,rfl⟩ c8
end Go.Proofs.YtcdppfnjidlknaaGreatDoor
namespace Go.Eng
open Go Go.ChangeShapes
section
variable {H : Type} {enc' : TypeId × Value → H} {P : Program} {w : World} {base : Nat} {held : Bool}
theorem qkz {t:TypeId} {fs:Array Field} (ht:P.underlying t=some (.struct fs)) (ts:List TypeId) (hfs:(fs.toList.map fun f=>(f.offset,f.type))=(List.range ts.length).zip ts) (hone:∀ u∈ts,P.cellsOf u=1) (hsz:P.cellsOf t=ts.length)
  {n:Nat} {cs:List Value} {y:DataW H×List MemPlace} (h:DataW.trod enc' P w base (fun _=>true) held n t cs=some y) :
  ∃ (xs:List (DataW H×List MemPlace)) (m:Nat),y.1=.agg (xs.map (·.1))∧xs.length=ts.length∧cs.length=ts.length∧∀ (i:Nat) (u:TypeId),ts[i]? = some u→∃ c yi,cs[i]? = some c∧xs[i]? = some yi∧DataW.trod enc' P w base (fun _=>true) held m u [c]=some yi:=by
 obtain⟨xs,m,-,rfl,hl,hlen,hf⟩:=DataW.trod_struct ht h
 have fsz:fs.size=ts.length:=by have:=congrArg List.length hfs;simpa using this
 refine⟨xs,m,rfl,by omega,by omega,fun i u hu=>?_⟩
 have hi:i<ts.length:=(List.getElem?_eq_some_iff.1 hu).1
 have hz:((List.range ts.length).zip ts)[i]? = some (i,u):=by
  rw[List.getElem?_zip_eq_some]
  exact⟨by rw[List.getElem?_range hi],hu⟩
 rw[← hfs,List.getElem?_map] at hz
 obtain⟨f,hf1,hf2⟩:=Option.map_eq_some_iff.1 hz
 simp only[Prod.mk.injEq] at hf2
 have hf1':fs[i]? = some f:=by simpa using hf1
 have hfi:=hf i f hf1'
 rw[hf2.1,hf2.2,hone u (List.mem_of_getElem? hu)] at hfi
 have hc:i<cs.length:=by omega
 have hx:i<xs.length:=by omega
 have e:(cs.drop i).take 1=[cs[i]]:=by rw[List.drop_eq_getElem_cons hc];rfl
 rw[e] at hfi
 exact⟨cs[i],xs[i],List.getElem?_eq_getElem hc,List.getElem?_eq_getElem hx,by rw[hfi,List.getElem?_eq_getElem hx]⟩
theorem qdB {m:Nat}{u:TypeId} {κ:IntKind}{c:Value}{y:DataW H×List MemPlace}(hu:P.underlying u=some (.int κ))(h:DataW.trod enc' P w base (fun _=>true) held m u [c]=some y):∃ a,c=.int κ a∧kwf κ a:=by
 obtain⟨a,e,-,w0⟩:=DataW.trod_int hu h
 simp at e
 exact⟨a,e,by simpa [Lit.wf,kwf] using w0⟩
theorem q2E {m:Nat}{u:TypeId}{c:Value}{y:DataW H×List MemPlace}(hu:P.underlying u=some .bool)(h:DataW.trod enc' P w base (fun _=>true) held m u [c]=some y):∃ a,c=.bool a:=by
 obtain⟨a,e,-⟩:=DataW.trod_bool hu h
 simp at e
 exact⟨a,e⟩
def ZT {α:Type}(d:DataW H)(x:α):Prop:=True
theorem q87 {t t1 t2 t3:TypeId} {fs:Array Field} (ht:P.underlying t=some (.struct fs)) (hsz:P.cellsOf t=3) (hfs:(fs.toList.map fun f=>(f.offset,f.type))=[(0,t1),(1,t2),(2,t3)]) (h1:P.underlying t1=some (.int .u8)) (h2:P.underlying t2=some (.int .i64)) (h3:P.underlying t3=some (.int .i64))
  (z1:P.cellsOf t1=1) (z2:P.cellsOf t2=1) (z3:P.cellsOf t3=1):qbs enc' P w base held 17 (ZT (α:=Grp)) t:=fun n cs y h=>by
 obtain⟨xs,m,-,-,hl,hf⟩:=qkz ht [t1,t2,t3] hfs (by intro u hu;simp at hu;rcases hu with rfl|rfl|rfl<;>assumption) hsz h
 match cs,hl with
 | [c0,c1,c2],_ =>
  obtain⟨a,y0,e0,-,g0⟩:=hf 0 _ rfl
  obtain⟨b,y1,e1,-,g1⟩:=hf 1 _ rfl
  obtain⟨c,y2,e2,-,g2⟩:=hf 2 _ rfl
  cases e0;cases e1;cases e2
  obtain⟨a0,rfl,k0⟩:=qdB h1 g0
  obtain⟨a1,rfl,k1⟩:=qdB h2 g1
  obtain⟨a2,rfl,k2⟩:=qdB h3 g2
  refine⟨⟨a0,a1,a2⟩,trivial,rfl,fun j u hv=>?_⟩
  match j,hv with
  |0,hv=>cases hv;exact⟨rfl,.int k0⟩
  |1,hv=>cases hv;exact⟨rfl,.int k1⟩
  |2,hv=>cases hv;exact⟨rfl,.int k2⟩
  |j+3,hv=>simp at hv
def ZPhs (d:DataW H)(x:Phs):Prop:=0≤x.groupsf∧x.groupsf<4294967296
theorem q88 {t t1 t2 t3 t4 t5:TypeId} {fs:Array Field} (ht:P.underlying t=some (.struct fs)) (hsz:P.cellsOf t=5) (hfs:(fs.toList.map fun f=>(f.offset,f.type))=[(0,t1),(1,t2),(2,t3),(3,t4),(4,t5)]) (h1:P.underlying t1=some (.int .u32)) (h2:P.underlying t2=some (.int .i64)) (h3:P.underlying t3=some (.int .i64)) (h4:P.underlying t4=some (.int .i64)) (h5:P.underlying t5=some .bool)
  (z1:P.cellsOf t1=1) (z2:P.cellsOf t2=1) (z3:P.cellsOf t3=1) (z4:P.cellsOf t4=1) (z5:P.cellsOf t5=1):qbs enc' P w base held 18 ZPhs t:=fun n cs y h=>by
 obtain⟨xs,m,-,-,hl,hf⟩:=qkz ht [t1,t2,t3,t4,t5] hfs (by intro u hu;simp at hu;rcases hu with rfl|rfl|rfl|rfl|rfl<;>assumption) hsz h
 match cs,hl with
 | [c0,c1,c2,c3,c4],_ =>
  obtain⟨a,y0,e0,-,g0⟩:=hf 0 _ rfl
  obtain⟨b,y1,e1,-,g1⟩:=hf 1 _ rfl
  obtain⟨c,y2,e2,-,g2⟩:=hf 2 _ rfl
  obtain⟨d,y3,e3,-,g3⟩:=hf 3 _ rfl
  obtain⟨e,y4,e4,-,g4⟩:=hf 4 _ rfl
  cases e0;cases e1;cases e2;cases e3;cases e4
  obtain⟨a0,rfl,k0⟩:=qdB h1 g0
  obtain⟨a1,rfl,k1⟩:=qdB h2 g1
  obtain⟨a2,rfl,k2⟩:=qdB h3 g2
  obtain⟨a3,rfl,k3⟩:=qdB h4 g3
  obtain⟨a4,rfl⟩:=q2E h5 g4
  refine⟨⟨a0,a1,a2,a3,a4⟩,(show 0≤a0∧a0<4294967296 from by have:0≤a0∧a0≤4294967295:=k0;omega),rfl,fun j u hv=>?_⟩
  match j,hv with
  |0,hv=>cases hv;exact⟨rfl,.int k0⟩
  |1,hv=>cases hv;exact⟨rfl,.int k1⟩
  |2,hv=>cases hv;exact⟨rfl,.int k2⟩
  |3,hv=>cases hv;exact⟨rfl,.int k3⟩
  |4,hv=>cases hv;exact⟨rfl,.bool⟩
  |j+5,hv=>simp at hv
theorem q89 {t t1 t2 t3 t4:TypeId} {fs:Array Field} (ht:P.underlying t=some (.struct fs)) (hsz:P.cellsOf t=4) (hfs:(fs.toList.map fun f=>(f.offset,f.type))=[(0,t1),(1,t2),(2,t3),(3,t4)]) (h1:P.underlying t1=some (.int .i64)) (h2:P.underlying t2=some (.int .i64)) (h3:P.underlying t3=some (.int .i64)) (h4:P.underlying t4=some (.int .i64))
  (z1:P.cellsOf t1=1) (z2:P.cellsOf t2=1) (z3:P.cellsOf t3=1) (z4:P.cellsOf t4=1):qbs enc' P w base held 19 (ZT (α:=EyeT)) t:=fun n cs y h=>by
 obtain⟨xs,m,-,-,hl,hf⟩:=qkz ht [t1,t2,t3,t4] hfs (by intro u hu;simp at hu;rcases hu with rfl|rfl|rfl|rfl<;>assumption) hsz h
 match cs,hl with
 | [c0,c1,c2,c3],_ =>
  obtain⟨a,y0,e0,-,g0⟩:=hf 0 _ rfl
  obtain⟨b,y1,e1,-,g1⟩:=hf 1 _ rfl
  obtain⟨c,y2,e2,-,g2⟩:=hf 2 _ rfl
  obtain⟨d,y3,e3,-,g3⟩:=hf 3 _ rfl
  cases e0;cases e1;cases e2;cases e3
  obtain⟨a0,rfl,k0⟩:=qdB h1 g0
  obtain⟨a1,rfl,k1⟩:=qdB h2 g1
  obtain⟨a2,rfl,k2⟩:=qdB h3 g2
  obtain⟨a3,rfl,k3⟩:=qdB h4 g3
  refine⟨⟨a0,a1,a2,a3⟩,trivial,rfl,fun j u hv=>?_⟩
  match j,hv with
  |0,hv=>cases hv;exact⟨rfl,.int k0⟩
  |1,hv=>cases hv;exact⟨rfl,.int k1⟩
  |2,hv=>cases hv;exact⟨rfl,.int k2⟩
  |3,hv=>cases hv;exact⟨rfl,.int k3⟩
  |j+4,hv=>simp at hv
def ZInp (d:DataW H)(x:Inp):Prop:=(0≤x.eyesf∧x.eyesf<4294967296)∧∃ d0 d1 d2 r,d=.agg (d0::d1::d2::r)∧DSz Z0 d0 x.bytesf∧DSz Z0 d2 x.backf
theorem q8A {t t1 t2 t3 t4 t5 t6 t7 e:TypeId} {fs:Array Field} (ht:P.underlying t=some (.struct fs)) (hsz:P.cellsOf t=7) (hfs:(fs.toList.map fun f=>(f.offset,f.type))=[(0,t1),(1,t2),(2,t3),(3,t4),(4,t5),(5,t6),(6,t7)]) (h1:P.underlying t1=some (.slice e)) (h2:P.underlying t2=some (.int .u32)) (h3:P.underlying t3=some (.slice e)) (h4:P.underlying t4=some .bool) (h5:P.underlying t5=some (.int .i64)) (h6:P.underlying t6=some (.int .i64)) (h7:P.underlying t7=some .bool) (he:P.underlying e=some (.int .u8))
  (z1:P.cellsOf t1=1) (z2:P.cellsOf t2=1) (z3:P.cellsOf t3=1) (z4:P.cellsOf t4=1) (z5:P.cellsOf t5=1) (z6:P.cellsOf t6=1) (z7:P.cellsOf t7=1) (ze:P.cellsOf e=1):qbs enc' P w base held 24 ZInp t:=fun n cs y h=>by
 obtain⟨xs,m,ey,hxl,hl,hf⟩:=qkz ht [t1,t2,t3,t4,t5,t6,t7] hfs (by intro u hu;simp at hu;rcases hu with rfl|rfl|rfl|rfl|rfl|rfl|rfl<;>assumption) hsz h
 match cs,hl with
 | [c0,c1,c2,c3,c4,c5,c6],_ =>
  obtain⟨a,y0,e0,x0,g0⟩:=hf 0 _ rfl
  obtain⟨b,y1,e1,x1,g1⟩:=hf 1 _ rfl
  obtain⟨c,y2,e2,x2,g2⟩:=hf 2 _ rfl
  obtain⟨d,y3,e3,x3,g3⟩:=hf 3 _ rfl
  obtain⟨e',y4,e4,x4,g4⟩:=hf 4 _ rfl
  obtain⟨f',y5,e5,x5,g5⟩:=hf 5 _ rfl
  obtain⟨g',y6,e6,x6,g6⟩:=hf 6 _ rfl
  cases e0;cases e1;cases e2;cases e3;cases e4;cases e5;cases e6
  obtain⟨v0,b0,q0,o0,r0,s0⟩:=qaA (c:=0) (by decide) h1 ze (qjb he) g0
  obtain⟨a1,rfl,k1⟩:=qdB h2 g1
  obtain⟨v2,b2,q2,o2,r2,s2⟩:=qaA (c:=0) (by decide) h3 ze (qjb he) g2
  obtain⟨a3,rfl⟩:=q2E h4 g3
  obtain⟨a4,rfl,k4⟩:=qdB h5 g4
  obtain⟨a5,rfl,k5⟩:=qdB h6 g5
  obtain⟨a6,rfl⟩:=q2E h7 g6
  simp at q0 q2
  subst q0;subst q2
  match xs,hxl with
  | [p0,p1,p2,p3,p4,p5,p6],_ =>
   cases x0;cases x2
   refine⟨⟨b0,a1,b2,a3,a4,a5,a6⟩,⟨(show 0≤a1∧a1<4294967296 from by have:0≤a1∧a1≤4294967295:=k1;omega),_,_,_,_,ey,s0,s2⟩,rfl,fun j u hv=>?_⟩
   match j,hv with
   |0,hv=>cases hv;exact⟨o0,r0⟩
   |1,hv=>cases hv;exact⟨rfl,.int k1⟩
   |2,hv=>cases hv;exact⟨o2,r2⟩
   |3,hv=>cases hv;exact⟨rfl,.bool⟩
   |4,hv=>cases hv;exact⟨rfl,.int k4⟩
   |5,hv=>cases hv;exact⟨rfl,.int k5⟩
   |6,hv=>cases hv;exact⟨rfl,.bool⟩
   |j+7,hv=>simp at hv
theorem q49 {α:Type}{Z:DataW H→α→Prop}{Q:α→Prop}(hq:∀ d x,Z d x→Q x):∀ (el:List (DataW H)) (xs:List α),ZAll Z el xs→∀ x∈xs,Q x
 | [],[],_,x,hx=>by simp at hx
 |d::el,y::xs,h,x,hx=>by
  rcases List.mem_cons.1 hx with rfl|hx
  ·
   exact hq _ _ h.1
  ·
   exact q49 hq el xs h.2 x hx
theorem dsz_all {α:Type}{Z:DataW H→α→Prop}{Q:α→Prop}(hq:∀ d x,Z d x→Q x){d:DataW H}{xs:List α}(h:DSz Z d xs):∀ x∈xs,Q x:=by
 rcases h with rfl|⟨el,sp,-,h⟩
 ·
  intro x hx;simp at hx
 ·
  exact q49 hq el xs h
theorem q2F {α:Type}{Z:DataW H→α→Prop}{P:Program}{t e:TypeId}{d:DataW H}{xs:List α}(h:DSz Z d xs)(ht:P.underlying t=some (.slice e))(hb:0<P.bytesOf e)(hn:∀ n,n∈DataW.weights P t d→n≤reachBytes):xs.length≤140737488355328:=by
 rcases h with rfl|⟨el,sp,rfl,hz⟩
 ·
  simp
 ·
  have l:=quZ el xs hz
  have:=hn ((el.length+sp.length)*P.bytesOf e) (by simp[DataW.weights,ht])
  have r:reachBytes≤140737488355328:=by decide
  have:el.length+sp.length≤(el.length+sp.length)*P.bytesOf e:=Nat.le_mul_of_pos_right _ hb
  omega
def InB (x:Inp):Prop:=(0≤x.eyesf∧x.eyesf<4294967296)∧x.bytesf.length≤140737488355328∧x.backf.length≤140737488355328
theorem q8B {P:Program}{t t1 t2 t3 e:TypeId}{fs:Array Field}{r:List TypeId}(ht:P.underlying t=some (.struct fs))(hf:fs.toList.map (·.type)=t1::t2::t3::r)(h1:P.underlying t1=some (.slice e))(h3:P.underlying t3=some (.slice e))(hb:0<P.bytesOf e):∀ (el:List (DataW H)) (xs:List Inp),ZAll ZInp el xs→(∀ n,n∈DataW.weightsAll P t el→n≤reachBytes)→∀ x∈xs,InB x
 | [],[],_,_,x,hx=>by simp at hx
 | [],_::_,h,_,_,_=>h.elim
 |_::_,[],h,_,_,_=>h.elim
 |d::el,y::xs,h,hn,x,hx=>by
  rcases List.mem_cons.1 hx with rfl|hx
  ·
   obtain⟨hy,d0,d1,d2,rr,rfl,z0,z2⟩:=h.1
   refine⟨hy,q2F z0 h1 hb fun n hm=>hn n ?_,q2F z2 h3 hb fun n hm=>hn n ?_⟩
   ·
    simp only[DataW.weightsAll,DataW.weights,ht,hf,DataW.weightsEach,List.mem_append];exact .inl (.inl hm)
   ·
    simp only[DataW.weightsAll,DataW.weights,ht,hf,DataW.weightsEach,List.mem_append];exact .inl (.inr (.inr (.inl hm)))
  ·
   exact q8B ht hf h1 h3 hb el xs h.2 (fun n hm=>hn n (by simp only[DataW.weightsAll,List.mem_append];exact .inr hm)) x hx
theorem q8C {P:Program}{ts:List TypeId}{ds:List (DataW H)}(h:(DataW.weightsEach P ts ds).all (·≤reachBytes)=true){j:Nat}{t' t t1 t2 t3 e:TypeId}{fs:Array Field}{r:List TypeId}{d:DataW H}{xs:List Inp}(hj:ts[j]? = some t')(hd:ds[j]? = some d)(hu:P.underlying t'=some (.slice t))(ht:P.underlying t=some (.struct fs))(hf:fs.toList.map (·.type)=t1::t2::t3::r)(h1:P.underlying t1=some (.slice e))(h3:P.underlying t3=some (.slice e))(hb:0<P.bytesOf e)(z:DSz ZInp d xs):∀ x∈xs,InB x:=by
 rcases z with rfl|⟨el,sp,rfl,hz⟩
 ·
  intro x hx;simp at hx
 ·
  refine q8B ht hf h1 h3 hb el xs hz fun n hn=>?_
  have:=List.all_eq_true.1 h n (DataW.weights_mem_each hj hd n (by simp[DataW.weights,hu,hn]))
  simpa using this
end
end Go.Eng
namespace Go.Eng
open Go
section
variable {H : Type} {P : Program}
theorem wall {α:Type}{t:TypeId}{Z:DataW H→α→Prop}{Q:α→Prop}(hq:∀ d x,Z d x→(∀ n∈DataW.weights P t d,n≤reachBytes)→Q x):∀ (el:List (DataW H)) (xs:List α),ZAll Z el xs→(∀ n∈DataW.weightsAll P t el,n≤reachBytes)→∀ x∈xs,Q x
 | [],[],_,_,x,hx=>by simp at hx
 | [],_::_,h,_,_,_=>h.elim
 |_::_,[],h,_,_,_=>h.elim
 |d::el,y::xs,h,hn,x,hx=>by
  rcases List.mem_cons.1 hx with rfl|hx
  ·
   exact hq d x h.1 fun n hm=>hn n (by simp only[DataW.weightsAll,List.mem_append];exact .inl hm)
  ·
   exact wall hq el xs h.2 (fun n hm=>hn n (by simp only[DataW.weightsAll,List.mem_append];exact .inr hm)) x hx
theorem qrk {α:Type}{t e:TypeId}{Z:DataW H→α→Prop}{Q:α→Prop}{d:DataW H}{xs:List α}(ht:P.underlying t=some (.slice e))(hq:∀ d x,Z d x→(∀ n∈DataW.weights P e d,n≤reachBytes)→Q x)(h:DSz Z d xs)(hn:∀ n∈DataW.weights P t d,n≤reachBytes):xs.length*P.bytesOf e≤140737488355328∧∀ x∈xs,Q x:=by
 rcases h with rfl|⟨el,sp,rfl,hz⟩
 ·
  exact⟨by simp,fun x hx=>by simp at hx⟩
 ·
  have l:=quZ el xs hz
  have w:=hn ((el.length+sp.length)*P.bytesOf e) (by simp[DataW.weights,ht])
  have r:reachBytes≤140737488355328:=by decide
  have:xs.length*P.bytesOf e≤(el.length+sp.length)*P.bytesOf e:=Nat.mul_le_mul_right _ (by omega)
  exact⟨by omega,wall hq el xs hz fun n hm=>hn n (by simp[DataW.weights,ht,hm])⟩
theorem q8D {α:Type}{Z:DataW H→α→Prop}{ts:List TypeId}{ds:List (DataW H)}(h:(DataW.weightsEach P ts ds).all (·≤reachBytes)=true){j b:Nat}{t' t:TypeId}{d:DataW H}{xs:List α}(hj:ts[j]? = some t')(hd:ds[j]? = some d)(hu:P.underlying t'=some (.slice t))(hb:P.bytesOf t=b)(z:DSz Z d xs):xs.length*b≤140737488355328:=by
 subst hb
 exact(qrk (Q:=fun _=>True) hu (fun _ _ _ _=>trivial) z fun n hn=>by
  have:=List.all_eq_true.1 h n (DataW.weights_mem_each hj hd n hn)
  simpa using this).1
theorem q0k {n b:Nat}(h:n*b≤140737488355328)(hb:0<b):n≤140737488355328:=Nat.le_trans (Nat.le_mul_of_pos_right _ hb) h
theorem reach_mm {ts:List TypeId} {ds:List (DataW H)} (h:(DataW.weightsEach P ts ds).all (·≤reachBytes)=true) {j:Nat} {t' t e t1 t2 t3 b:TypeId} {fs:Array Field} {d:DataW H} {xs:List (List Msg)} (hj:ts[j]? = some t') (hd:ds[j]? = some d) (hu:P.underlying t'=some (.slice t)) (hu2:P.underlying t=some (.slice e)) (hs:P.underlying e=some (.struct fs)) (hf:fs.toList.map (·.type)=[t1,t2,t3]) (h3:P.underlying t3=some (.slice b)) (b1:0<P.bytesOf t) (b2:0<P.bytesOf e) (b3:0<P.bytesOf b) (z:DSz (DSz ZMsg) d xs) :
  xs.length≤140737488355328∧∀ x∈xs,x.length≤140737488355328∧∀ y∈x,y.body.length≤140737488355328:=by
 have q:=qrk (Q:=fun x:List Msg=>x.length≤140737488355328∧∀ y∈x,y.body.length≤140737488355328) hu (fun d x hx hn=>by
  have:=qrk (Q:=fun y:Msg=>y.body.length≤140737488355328) hu2 (fun d y hy hn=>by
   obtain⟨d0,d1,d2,rfl,z2⟩:=hy
   exact q2F z2 h3 b3 fun n hm=>hn n (by simp only[DataW.weights,hs,hf,DataW.weightsEach,List.mem_append];exact .inr (.inr (.inl hm)))) hx hn
  exact⟨q0k this.1 b2,this.2⟩) z fun n hn=>by
   have:=List.all_eq_true.1 h n (DataW.weights_mem_each hj hd n hn)
   simpa using this
 exact⟨q0k q.1 b1,q.2⟩
end
end Go.Eng
