import Derived.Test.YtcdppfnjidlknaaGreatDoorYbf
set_option linter.unusedVariables false
set_option linter.unusedSimpArgs false
namespace Go.Proofs.YtcdppfnjidlknaaGreatDoor
open Go Go.Eng Go.Proofs Go.Wp
theorem app_La {z z':List UInt8}{w:List SeenT}{a n m:Int}(h:FA (fun i=>La z i=As w i) n)(g:0≤n∧(z.length:Int)=n)(e:m=n+1)(ez:z'=List.take z.length z++[UInt8.ofNat a.toNat])(ea:a=As w n.toNat)(b:0≤a∧a<256):FA (fun i=>La z' i=As w i) m:=by
  subst ez;subst ea
  rw[List.take_length]
  intro k hk
  unfold La
  by_cases c:(k:Int)=n
  · subst c
    rw[List.getD_eq_getElem?_getD,List.getElem?_append_right (by omega),show k-z.length=0 by omega]
    simp only[List.getElem?_cons_zero,Option.getD_some]
    rw[UInt8.toNat_ofNat']
    simp only[Int.toNat_natCast] at b ⊢
    omega
  · have:=h k (by omega)
    unfold La at this
    rw[List.getD_eq_getElem?_getD,List.getElem?_append_left (by omega),← List.getD_eq_getElem?_getD];exact this
theorem Cn.set {l l':List Int}{n k:Nat}{a:Int}(h:Cn l n)(e:l'=l.set k a)(b:0≤a∧a≤1048576):Cn l' n:=by
  subst e
  refine⟨by rw[List.length_set];exact h.1,fun x hx=>?_⟩
  rcases List.mem_or_eq_of_mem_set hx with g|g
  · exact h.2 x g
  · subst g;exact b
theorem qb4.le4 {s:SiteT}{z:List SeenT}{st:Int}{fl:Bool}(h:qb4 s z st fl){k:Nat}(hk:(k:Int)<s.groups.length):As z k≤4:=by
  cases fl
  · have:=(h.2.2.2 rfl).1 k hk;omega
  · have:=h.2.2.1 rfl k hk;dsimp only at this;omega
theorem q2l {t:SiteT}{t2:LocT}{t3:Inp}{t4:List Put}{t5:List Pls}{t6:List UInt8}{t7:List UInt8}{t8:List UInt8}(p0:SG t)(p1:LOk t t2)(p2:t3.backf.length≤1000000000):W (qcl t t2 t3 t4 t5 t6 t7 t8) (fun r=>∃ wr f1 f2 f3 f4 k1 k2 k3 w,r=(t,{t2 with wrong:=wr},t3,t4,t5,t6,t7,t8,f1,f2,f3,f4,k1,k2,k3)∧(w.length=t.groups.length∧FA (fun i=>La w i=As t2.seen i) t.groups.length)∧(t3.backf≠[]∧t3.backf≠w→wr=min (t2.wrong+1) 1048576)∧(¬ (t3.backf≠[]∧t3.backf≠w)→wr=0)∧(f1=true→t2.age<t.watch)∧(f2=true→0<k3.length)∧(f4=false↔t.feed≤wr)∧(k3.length≤8∧∀ p∈k3,PlB p)):=by
 unfold qcl qbU
 obtain⟨⟨q1,q2,q3,q4,q5,q6,q7,q8⟩,q9⟩:=p0.ok.shape
 have ln:=p1.now.1
 have wr:=p1.wrong
 have dk:=p1.disk
 have ey:=p1.eyes
 refine qaj (fun v=>∃ z2 n20,v=((z2,()),((t,t2,t3,t4,t5,t6,t7,t8,()),(false,false,false,false,()),((0:Int),(0:Int),qaP,()),()),t2.seen,(t2.seen.length:Int),n20,())∧(0≤n20∧n20≤(t2.seen.length:Int))∧((z2.length:Int)=n20)∧(FA (fun i=>La z2 i=As t2.seen i) n20)) (fun((z2,_),((_,_,_,_,_,_,_,_,_),(_,_,_,_,_),(_,_,_,_),_),_,_,n20,_)=>((t2.seen.length:Int)-n20).toNat) ⟨_,_,rfl,by omega,by simp,FA.zero⟩ (by simp only[NN];omega) ?_
 rintro r1 _ ⟨z2,n20,rfl,hr1_0,hr1_1,hr1_2⟩ ihr1
 refine W_if (fun c1=>?_) fun c1=>?_
 ·refine W_ix (by omega) fun x76 hx76=>?_
  have g76:=qaq (d:=dflt 20) (n:=n20) p1.now.mem (by omega)
  rw[← hx76] at g76
  refine W_rm (by omega) ?_
  refine qac fun z77 hz77=>?_
  have lz77:=congrArg List.length hz77;try simp at lz77
  refine qah (by omega) fun n78 hn78=>?_
  refine W_rs (by omega) ?_
  exact ihr1.use _ ⟨_,_,rfl,by omega,by omega,app_La hr1_2 (by omega) hn78 hz77 (by rw[hx76];rfl) g76⟩ (by dsimp only;omega)
 ·rw[List.take_length]
  refine qab (q5J p0 ⟨by omega,fun k hk=>by have h1:=hr1_2 k (by omega);have h2:=p1.now.le4 (k:=k) (by omega);dsimp only at h1 ⊢;omega⟩ p2 wr) ?_
  rintro⟨n21,n22⟩ hn21
  dsimp only at hn21
  refine W_if (fun c4=>?_) fun c4=>?_
  ·refine qab (qaA (by omega) (by omega)) ?_
   rintro n49 hn49
   refine qab (qky p0 (by omega)) ?_
   rintro⟨b50,n51⟩ hb50
   refine qab (qfe (by omega)) ?_
   rintro⟨n52,n53,n54,z55⟩ hn52
   dsimp only at hn52
   refine qab (qrf (by omega) (by omega)) ?_
   rintro⟨b56,n57⟩ hb56
   dsimp only at hb56
   refine qa3 (fun(_,((x61,x62,x63,z64,z65,z66,z67,z68,_),(b69,b70,b71,b72,_),(n73,n74,z75,_),_),_)=>t=x61∧{t2 with wrong:=n49}=x62∧t3=x63∧t4=z64∧t5=z65∧t6=z66∧t7=z67∧t8=z68∧(bif bif !t3.rotf then n52==0 else false then decide ((z55.length:Int) > 0) else false)=b70∧b56=b71∧(!b50)=b72∧n53=n73∧n54=n74∧z55=z75∧((b69=true→t2.age<t.watch))) (fun J58 hJ58=>?_) ?_
   ·refine W_sm ?_
    refine qab (qrg) ?_
    rintro b59 hb59
    refine W_sm ?_
    exact hJ58.use _ (by dsimp only;exact⟨rfl,rfl,rfl,rfl,rfl,rfl,rfl,rfl,rfl,rfl,rfl,rfl,rfl,rfl,by intro h;cases b59<;>simp at h;exact h⟩)
   ·rintro⟨_,⟨⟨x61,x62,x63,z64,z65,z66,z67,z68,_⟩,⟨b69,b70,b71,b72,_⟩,⟨n73,n74,z75,_⟩,_⟩,_⟩ kJ58;dsimp only at kJ58
    obtain⟨rfl,rfl,rfl,rfl,rfl,rfl,rfl,rfl,rfl,rfl,rfl,rfl,rfl,rfl,kJ58⟩:=kJ58
    refine qaa ?_
    simp only[Prod.mk.injEq] at hb50
    exact⟨_,b69,_,_,_,_,_,_,z2,rfl,⟨by omega,fun k hk=>hr1_2 k (by omega)⟩,fun _=>hn49,fun h=>absurd (hn21.2 (by assumption)) h,kJ58,fun h=>by simp at h;omega,by rw[hb50.1];simp,hn52.1⟩
  ·refine qab (qky p0 (by have e0:=Classical.not_not.1 (show ¬ ¬ n22=0 by assumption);by_cases h:t3.backf≠[]∧t3.backf≠z2;have:=(hn21.1 e0).1 h;omega;have:=(hn21.1 e0).2 h;omega)) ?_
   rintro⟨b23,n24⟩ hb23
   refine qab (qfe (by omega)) ?_
   rintro⟨n25,n26,n27,z28⟩ hn25
   dsimp only at hn25
   refine qab (qrf (by omega) (by omega)) ?_
   rintro⟨b29,n30⟩ hb29
   dsimp only at hb29
   refine qa3 (fun(_,((x34,x35,x36,z37,z38,z39,z40,z41,_),(b42,b43,b44,b45,_),(n46,n47,z48,_),_),_)=>t=x34∧{t2 with wrong:=n21}=x35∧t3=x36∧t4=z37∧t5=z38∧t6=z39∧t7=z40∧t8=z41∧(bif bif !t3.rotf then n25==0 else false then decide ((z28.length:Int) > 0) else false)=b43∧b29=b44∧(!b23)=b45∧n26=n46∧n27=n47∧z28=z48∧((b42=true→t2.age<t.watch))) (fun J31 hJ31=>?_) ?_
   ·refine W_sm ?_
    refine qab (qrg) ?_
    rintro b32 hb32
    refine W_sm ?_
    exact hJ31.use _ (by dsimp only;exact⟨rfl,rfl,rfl,rfl,rfl,rfl,rfl,rfl,rfl,rfl,rfl,rfl,rfl,rfl,by intro h;cases b32<;>simp at h;exact h⟩)
   ·rintro⟨_,⟨⟨x34,x35,x36,z37,z38,z39,z40,z41,_⟩,⟨b42,b43,b44,b45,_⟩,⟨n46,n47,z48,_⟩,_⟩,_⟩ kJ31;dsimp only at kJ31
    obtain⟨rfl,rfl,rfl,rfl,rfl,rfl,rfl,rfl,rfl,rfl,rfl,rfl,rfl,rfl,kJ31⟩:=kJ31
    refine qaa ?_
    simp only[Prod.mk.injEq] at hb23
    have e0:n22=0:=Classical.not_not.1 (by assumption)
    exact⟨_,b42,_,_,_,_,_,_,z2,rfl,⟨by omega,fun k hk=>hr1_2 k (by omega)⟩,(hn21.1 e0).1,(hn21.1 e0).2,kJ31,fun h=>by simp at h;omega,by rw[hb23.1];simp,hn25.1⟩
theorem q5B {t:SiteT}{t2:LocT}{t3:Inp}{t4:List Put}{t5:List Pls}{t6:List UInt8}{t7:List UInt8}{t8:List UInt8}(p0:SG t)(p1:LOk t t2)(p2:t4.length≤1000∧∀ p∈t4,p.data.length=64):W (qd7 t t2 t3 t4 t5 t6 t7 t8) (fun r=>∃ x z st fl,r=(t,{x with seen:=z,start:=st,flashed:=fl,tick:=min (t2.tick+1) 1073741824,sent:=t2.sent},t3,t4,t5,t6,List.replicate t.groups.length (UInt8.ofNat 4),t8)∧LNew t x∧qul t t2.seen t2.start t2.flashed (List.replicate t.groups.length (UInt8.ofNat 4)) z st fl):=by
 unfold qd7 qcZ
 obtain⟨⟨q1,q2,q3,q4,q5,q6,q7,q8⟩,q9⟩:=p0.ok.shape
 have dk:=p1.disk
 have tk:=p1.tick
 have nf:qdG t t2.seen t2.start t2.flashed (List.replicate t.groups.length (UInt8.ofNat 4)):=⟨by simp,.inl fun k hk=>rep4 (by simpa using hk)⟩
 refine qac fun n1 hn1=>?_
 refine qac fun n2 hn2=>?_
 refine qac fun n3 hn3=>?_
 refine qac fun n4 hn4=>?_
 refine W_if (fun c1=>?_) fun c1=>?_
 ·refine qa3 (fun(_,((x51,x52,x53,z54,z55,z56,z57,z58,_),(z59,_),_),_)=>t=x51∧t2=x52∧t3=x53∧t4=z54∧t5=z55∧t6=z56∧t7=z57∧t8=z58∧(z59.length≤1000000)) (fun J46 hJ46=>?_) ?_
  ·refine W_sm ?_
   refine qab (qk0 dk p2 (by omega)) ?_
   rintro⟨z47,n48⟩ hz47
   dsimp only at hz47
   exact hJ46.use _ (by dsimp only;exact⟨rfl,rfl,rfl,rfl,rfl,rfl,rfl,rfl,by omega⟩)
  ·rintro⟨_,⟨⟨x51,x52,x53,z54,z55,z56,z57,z58,_⟩,⟨z59,_⟩,_⟩,_⟩ kJ46;dsimp only at kJ46
   obtain⟨rfl,rfl,rfl,rfl,rfl,rfl,rfl,rfl,kJ46⟩:=kJ46
   refine qab (qff p0 kJ46) ?_
   rintro x60 hx60
   refine qab (qi8 (by omega)) ?_
   rintro⟨z61,x62,x63,x64,z65,z66,z67,z68,z69⟩ hz61
   simp only[Prod.mk.injEq] at hz61;obtain⟨rfl,rfl,rfl,rfl,rfl,rfl,rfl,rfl,rfl⟩:=hz61
   refine qab (qed p0 p1.now (by simp;omega)) ?_
   rintro⟨n70,n71,z72,n73,b74⟩ hn70
   dsimp only at hn70
   refine qa3 (fun(_,((x79,x80,x81,z82,z83,z84,z85,z86,_),_),_)=>t=x79∧t3=x81∧t4=z82∧t5=z83∧t6=z84∧(List.replicate t.groups.length (UInt8.ofNat 4))=z85∧t8=z86∧(x80={x60 with seen:=z72,start:=n73,flashed:=b74,tick:=min (t2.tick+1) 1073741824,sent:=t2.sent})) (fun J75 hJ75=>?_) ?_
   ·refine W_sm ?_
    refine qab (qaA tk (by omega)) ?_
    rintro n76 hn76
    refine W_sm ?_
    exact hJ75.use _ (by dsimp only;exact⟨rfl,rfl,rfl,rfl,rfl,rfl,rfl,by rw[hn76]⟩)
   ·rintro⟨_,⟨⟨x79,x80,x81,z82,z83,z84,z85,z86,_⟩,_⟩,_⟩ kJ75;dsimp only at kJ75
    obtain⟨rfl,rfl,rfl,rfl,rfl,rfl,rfl,kJ75⟩:=kJ75
    refine qaa ?_
    subst kJ75;exact⟨_,_,_,_,rfl,hx60,hn70.2.2.1 (hn70.2.1.2 nf)⟩
 ·refine qa3 (fun(_,((x10,x11,x12,z13,z14,z15,z16,z17,_),(z18,_),_),_)=>t=x10∧t2=x11∧t3=x12∧t4=z13∧t5=z14∧t6=z15∧t7=z16∧t8=z17∧(z18.length≤1000000)) (fun J5 hJ5=>?_) ?_
  ·refine W_sm ?_
   refine qab (qk0 dk p2 (by omega)) ?_
   rintro⟨z6,n7⟩ hz6
   dsimp only at hz6
   exact hJ5.use _ (by dsimp only;exact⟨rfl,rfl,rfl,rfl,rfl,rfl,rfl,rfl,by omega⟩)
  ·rintro⟨_,⟨⟨x10,x11,x12,z13,z14,z15,z16,z17,_⟩,⟨z18,_⟩,_⟩,_⟩ kJ5;dsimp only at kJ5
   obtain⟨rfl,rfl,rfl,rfl,rfl,rfl,rfl,rfl,kJ5⟩:=kJ5
   refine qab (qff p0 kJ5) ?_
   rintro x19 hx19
   refine qab (qi8 (by omega)) ?_
   rintro⟨z20,x21,x22,x23,z24,z25,z26,z27,z28⟩ hz20
   simp only[Prod.mk.injEq] at hz20;obtain⟨rfl,rfl,rfl,rfl,rfl,rfl,rfl,rfl,rfl⟩:=hz20
   refine qab (qed p0 p1.now (by simp;omega)) ?_
   rintro⟨n29,n30,z31,n32,b33⟩ hn29
   dsimp only at hn29
   refine qa3 (fun(_,((x38,x39,x40,z41,z42,z43,z44,z45,_),_),_)=>t=x38∧t3=x40∧t4=z41∧t5=z42∧t6=z43∧(List.replicate t.groups.length (UInt8.ofNat 4))=z44∧t8=z45∧(x39={x19 with seen:=z31,start:=n32,flashed:=b33,tick:=min (t2.tick+1) 1073741824,sent:=t2.sent})) (fun J34 hJ34=>?_) ?_
   ·refine W_sm ?_
    refine qab (qaA tk (by omega)) ?_
    rintro n35 hn35
    refine W_sm ?_
    exact hJ34.use _ (by dsimp only;exact⟨rfl,rfl,rfl,rfl,rfl,rfl,rfl,by rw[hn35]⟩)
   ·rintro⟨_,⟨⟨x38,x39,x40,z41,z42,z43,z44,z45,_⟩,_⟩,_⟩ kJ34;dsimp only at kJ34
    obtain⟨rfl,rfl,rfl,rfl,rfl,rfl,rfl,kJ34⟩:=kJ34
    refine qaa ?_
    subst kJ34;exact⟨_,_,_,_,rfl,hx19,hn29.2.2.1 (hn29.2.1.2 nf)⟩
theorem qqW {t:SiteT}{t2:LocT}{t3:Inp}{t4:List Put}{t5:List Pls}{t6:List UInt8}{t7:List UInt8}{t8:List UInt8}(p0:SG t)(p1:LOk t t2)(p2:t5.length=t.eyes.length):W (qda t t2 t3 t4 t5 t6 t7 t8) (fun r=>∃ gr bu ca,r=(t,t2.disk,t2.seen,t2.start,t2.flashed,t2.mode,t2.well,t2.latched,t2.phase,t2.since,t2.any,t2.last,t2.lage,t2.rest,t2.cycle,t2.offset,t2.splits,t2.age,t2.pulses,t2.eyes,t2.gaps,t2.calls,t2.wrong,t2.tick,t2.sent,t3,t4,t5,t6,t7,t8,gr,bu,ca)∧Cn gr t.phases.length∧Cn bu t.phases.length∧Cn ca t.phases.length):=by
 unfold qda qhx
 obtain⟨⟨q1,q2,q3,q4,q5,q6,q7,q8⟩,q9⟩:=p0.ok.shape
 have lp:=p1.pulses
 have ln:=p1.now.1
 have cg:=p1.greens.1
 have cb:=p1.busy.1
 have cc:=p1.came.1
 refine qab (qge (by omega)) ?_
 rintro z1 hz1
 refine qab (qge (by omega)) ?_
 rintro z2 hz2
 refine qab (qge (by omega)) ?_
 rintro z3 hz3
 refine W_rs rfl ?_
 refine W_rs rfl ?_
 refine W_rs rfl ?_
 refine qaj (fun v=>∃ z5 z6 z7 n40,v=((z5,z6,z7,()),((t,t2.disk,t2.seen,t2.start,t2.flashed,t2.mode,t2.well,t2.latched,t2.phase,t2.since,t2.any,t2.last,t2.lage,t2.rest,t2.cycle,t2.offset,t2.splits,t2.age,t2.pulses,t2.eyes,t2.gaps,t2.calls,t2.wrong,t2.tick,t2.sent,t3,t4,t5,t6,t7,t8,()),()),(t.phases.length:Int),n40,())∧(0≤n40∧n40≤(t.phases.length:Int))∧(Cn z5 t.phases.length)∧(Cn z6 t.phases.length)∧(Cn z7 t.phases.length)) (fun((z5,z6,z7,_),((_,_,_,_,_,_,_,_,_,_,_,_,_,_,_,_,_,_,_,_,_,_,_,_,_,_,_,_,_,_,_,_),_),_,n40,_)=>((t.phases.length:Int)-n40).toNat) ⟨_,_,_,_,rfl,by omega,by rw[hz1];exact p1.greens,by rw[hz2];exact p1.busy,by rw[hz3];exact p1.came⟩ (by simp only[NN];omega) ?_
 rintro r4 _ ⟨z5,z6,z7,n40,rfl,hr4_0,hr4_1,hr4_2,hr4_3⟩ ihr4
 have m5:=hr4_1.1
 have m6:=hr4_2.1
 have m7:=hr4_3.1
 refine W_if (fun c4=>?_) fun c4=>?_
 ·refine qab (qlT (by omega) (by omega)) ?_
  rintro⟨b41,n42⟩ hb41
  refine W_if (fun c5=>?_) fun c5=>?_
  ·refine qah (by omega) fun n105 hn105=>?_
   refine W_rs rfl ?_
   refine W_rs rfl ?_
   refine W_rs rfl ?_
   exact ihr4.use _ ⟨_,_,_,_,rfl,by omega,hr4_1,hr4_2,hr4_3⟩ (by dsimp only;omega)
  ·refine W_rs rfl ?_
   refine W_rs rfl ?_
   refine W_rs rfl ?_
   refine qaj (fun v=>∃ z46 b79 n84,v=((z5,z6,z46,()),((t,t2.disk,t2.seen,t2.start,t2.flashed,t2.mode,t2.well,t2.latched,t2.phase,t2.since,t2.any,t2.last,t2.lage,t2.rest,t2.cycle,t2.offset,t2.splits,t2.age,t2.pulses,t2.eyes,t2.gaps,t2.calls,t2.wrong,t2.tick,t2.sent,t3,t4,t5,t6,t7,t8,()),()),n40,b79,(t.phases.length:Int),n40,t.eyes,(t.eyes.length:Int),n84,())∧(0≤n84∧n84≤(t.eyes.length:Int))∧(Cn z46 t.phases.length)) (fun((_,_,z46,_),((_,_,_,_,_,_,_,_,_,_,_,_,_,_,_,_,_,_,_,_,_,_,_,_,_,_,_,_,_,_,_,_),_),_,b79,_,_,_,_,n84,_)=>((t.eyes.length:Int)-n84).toNat) ⟨_,_,_,rfl,by omega,hr4_3⟩ (by simp only[NN];omega) ?_
   rintro r43 _ ⟨z46,b79,n84,rfl,hr43_0,hr43_1⟩ ihr43
   have m8:=hr43_1.1
   refine W_if (fun c12=>?_) fun c12=>?_
   ·refine W_ix (by omega) fun x96 hx96=>?_
    refine qaf (by omega) ?_
    refine qac fun x97 hx97=>?_
    refine W_if (fun c14=>?_) fun c14=>?_
    ·refine W_ix (by omega) fun x99 hx99=>?_
     refine W_if (fun c15=>?_) fun c15=>?_
     ·refine W_rb (by omega) ?_
      refine qaf (by omega) ?_
      refine qac fun n101 hn101=>?_
      have gn101:=qaq (d:=(0:Int)) hr43_1.2 (n:=n40) (by have:=hr43_1.1;omega)
      rw[Nat.zero_add] at hn101;rw[← hn101] at gn101
      refine qab (qaA (by omega) (by omega)) ?_
      rintro n102 hn102
      refine W_rb (by omega) ?_
      refine qaf (by omega) ?_
      refine qac fun z103 hz103=>?_
      have s103:=hr43_1.set hz103 (by omega)
      have m8:=s103.1
      refine qah (by omega) fun n104 hn104=>?_
      refine W_rs rfl ?_
      refine W_rs rfl ?_
      refine W_rs (by omega) ?_
      exact ihr43.use _ ⟨_,_,_,rfl,by omega,s103⟩ (by dsimp only;omega)
     ·refine qah (by omega) fun n100 hn100=>?_
      refine W_rs rfl ?_
      refine W_rs rfl ?_
      refine W_rs rfl ?_
      exact ihr43.use _ ⟨_,_,_,rfl,by omega,hr43_1⟩ (by dsimp only;omega)
    ·refine qah (by omega) fun n98 hn98=>?_
     refine W_rs rfl ?_
     refine W_rs rfl ?_
     refine W_rs rfl ?_
     exact ihr43.use _ ⟨_,_,_,rfl,by omega,hr43_1⟩ (by dsimp only;omega)
   ·refine W_if (fun c29=>?_) fun c29=>?_
    ·refine W_rb (by omega) ?_
     refine qaf (by omega) ?_
     refine qac fun n89 hn89=>?_
     have gn89:=qaq (d:=(0:Int)) hr4_2.2 (n:=n40) (by have:=hr4_2.1;omega)
     rw[Nat.zero_add] at hn89;rw[← hn89] at gn89
     refine qab (qaA (by omega) (by omega)) ?_
     rintro n90 hn90
     refine W_rb (by omega) ?_
     refine qaf (by omega) ?_
     refine qac fun z91 hz91=>?_
     have s91:=hr4_2.set hz91 (by omega)
     have m8:=s91.1
     refine W_rb (by omega) ?_
     refine qaf (by omega) ?_
     refine qac fun n92 hn92=>?_
     have gn92:=qaq (d:=(0:Int)) hr4_1.2 (n:=n40) (by have:=hr4_1.1;omega)
     rw[Nat.zero_add] at hn92;rw[← hn92] at gn92
     refine qab (qaA (by omega) (by omega)) ?_
     rintro n93 hn93
     refine W_rb (by omega) ?_
     refine qaf (by omega) ?_
     refine qac fun z94 hz94=>?_
     have s94:=hr4_1.set hz94 (by omega)
     have m9:=s94.1
     refine qah (by omega) fun n95 hn95=>?_
     refine W_rs (by omega) ?_
     refine W_rs (by omega) ?_
     refine W_rs rfl ?_
     exact ihr4.use _ ⟨_,_,_,_,rfl,by omega,s94,s91,hr43_1⟩ (by dsimp only;omega)
    ·refine W_rb (by omega) ?_
     refine qaf (by omega) ?_
     refine qac fun n85 hn85=>?_
     have gn85:=qaq (d:=(0:Int)) hr4_1.2 (n:=n40) (by have:=hr4_1.1;omega)
     rw[Nat.zero_add] at hn85;rw[← hn85] at gn85
     refine qab (qaA (by omega) (by omega)) ?_
     rintro n86 hn86
     refine W_rb (by omega) ?_
     refine qaf (by omega) ?_
     refine qac fun z87 hz87=>?_
     have s87:=hr4_1.set hz87 (by omega)
     have m8:=s87.1
     refine qah (by omega) fun n88 hn88=>?_
     refine W_rs (by omega) ?_
     refine W_rs rfl ?_
     refine W_rs rfl ?_
     exact ihr4.use _ ⟨_,_,_,_,rfl,by omega,s87,hr4_2,hr43_1⟩ (by dsimp only;omega)
 ·refine W_rs rfl ?_
  refine W_rs rfl ?_
  refine W_rs rfl ?_
  refine qaa ?_
  exact⟨_,_,_,rfl,hr4_1,hr4_2,hr4_3⟩
end Go.Proofs.YtcdppfnjidlknaaGreatDoor
namespace Go.Proofs.YtcdppfnjidlknaaGreatDoor
open Go Go.Eng Go.Proofs Go.Wp
theorem qzN {r:Int}{r2:Int}{r3:Int}{r4:List Int}(p0:r4.length≤1000)(p1:0≤r2):W (ql3 r r2 r3 r4) (fun q=>q.1.length≤20000):=by
 unfold ql3 qiz
 refine qab (qrj) ?_
 rintro b1 hb1
 refine W_if (fun c1=>?_) fun c1=>?_
 ·refine W_if (fun c2=>?_) fun c2=>?_
  ·refine qaa ?_
   first|(simp;done)|(dsimp only;omega)
  ·exact absurd c1 c2
 ·refine W_if (fun c3=>?_) fun c3=>?_
  ·refine W_if (fun c4=>?_) fun c4=>?_
   ·refine qaa ?_
    first|(simp;done)|(dsimp only;omega)
   ·exact absurd c3 c4
  ·refine W_if (fun c5=>?_) fun c5=>?_
   ·refine W_if (fun c6=>?_) fun c6=>?_
    ·refine qaa ?_
     first|(simp;done)|(dsimp only;omega)
    ·exact absurd c5 c6
   ·refine W_if (fun c7=>?_) fun c7=>?_
    ·refine qaa ?_
     first|(simp;done)|(dsimp only;omega)
    ·refine W_if (fun c8=>?_) fun c8=>?_
     ·refine qaa ?_
      first|(simp;done)|(dsimp only;omega)
     ·refine W_wi (by omega) fun n2 hn2=>?_
      refine qab (quu (by simp) (by have g:=hb1.1 (by simpa using c1);simp;omega)) ?_
      rintro z3 hz3
      refine W_rs rfl ?_
      refine qaj (fun v=>∃ z5 n8,v=((z5,()),(),r4,(r4.length:Int),n8,())∧(0≤n8∧n8≤(r4.length:Int))∧((z5.length:Int)≤40+10*n8)) (fun((z5,_),_,_,_,n8,_)=>((r4.length:Int)-n8).toNat) ⟨_,_,rfl,by omega,by simp at hz3;omega⟩ (by simp only[NN];omega) ?_
      rintro r4 _ ⟨z5,n8,rfl,hr4_0,hr4_1⟩ ihr4
      refine W_if (fun c10=>?_) fun c10=>?_
      ·refine W_ix (by omega) fun n9 hn9=>?_
       refine W_if (fun c11=>?_) fun c11=>?_
       ·refine qaa ?_
        first|(simp;done)|(dsimp only;omega)
       ·refine W_rs rfl ?_
        refine qab (q0g (by simp) (by simp;omega) (by omega)) ?_
        rintro z10 hz10
        refine qah (by omega) fun n11 hn11=>?_
        refine W_rs rfl ?_
        exact ihr4.use _ ⟨_,_,rfl,by omega,by simp at hz10;omega⟩ (by dsimp only;omega)
      ·refine W_rs rfl ?_
       refine qaa ?_
       first|(simp;done)|(dsimp only;omega)
theorem quh {greens:List Int}{busy:List Int}{came:List Int}{t:SiteT}{t2:List UInt8}{t3:List SeenT}{t4:Int}{t5:Bool}{t6:Int}{t7:Int}{t8:Bool}{t9:Int}{t10:Int}{t11:Bool}{t12:Int}{t13:Int}{t14:List UInt8}{t15:Int}{t16:Int}{t17:List Int}{t18:Int}{t19:List Pls}{t20:List Lkd}{t21:List Gpd}{t22:Int}{t23:Int}{t24:Int}{t25:Int}{t26:Inp}{t27:List Put}{t28:List Pls}{t29:List UInt8}{t30:List UInt8}{t31:List UInt8}(p0:SG t)(p1:Cn greens t.phases.length)(p2:Cn busy t.phases.length)(p3:Cn came t.phases.length)(p4:0≤t25∧t25<4294967296)(p5:0≤t24∧t24≤1073741824)(p6:0≤t6):W (qeQ greens busy came t t2 t3 t4 t5 t6 t7 t8 t9 t10 t11 t12 t13 t14 t15 t16 t17 t18 t19 t20 t21 t22 t23 t24 t25 t26 t27 t28 t29 t30 t31) (fun r=>∃ se ou gr bu ca,r=(t,t2,t3,t4,t5,t6,t7,t8,t9,t10,t11,t12,t13,t14,t15,t16,t17,t18,t19,t20,t21,t22,t23,t24,se,t26,t27,t28,t29,t30,ou,gr,bu,ca)∧(0≤se∧se<4294967296)∧Cn gr t.phases.length∧Cn bu t.phases.length∧Cn ca t.phases.length):=by
 unfold qeQ qjS
 obtain⟨⟨q1,q2,q3,q4,q5,q6,q7,q8⟩,q9⟩:=p0.ok.shape
 have lw:=p0.ok.times.2.2.2.1.1
 refine qab (q5M (by omega)) ?_
 rintro⟨n1,n2⟩ hn1
 dsimp only at hn1
 refine qah (by omega) fun n3 hn3=>?_
 refine qaf (by omega) ?_
 refine qac fun n4 hn4=>?_
 refine W_if (fun c2=>?_) fun c2=>?_
 ·refine W_rs rfl ?_
  refine W_rs rfl ?_
  refine W_rs rfl ?_
  refine qaa ?_
  exact⟨_,_,_,_,_,rfl,p4,p1,p2,p3⟩
 ·refine W_rs rfl ?_
  refine W_rs rfl ?_
  refine W_rs rfl ?_
  refine qaj (fun v=>∃ z6 z7 z8 z9 n46,v=((z6,z7,z8,z9,()),((t,t2,t3,t4,t5,t6,t7,t8,t9,t10,t11,t12,t13,t14,t15,t16,t17,t18,t19,t20,t21,t22,t23,t24,t25,t26,t27,t28,t29,t30,t31,()),(t.id,t6,t24,()),()),n1,(t.phases.length:Int),n46,())∧(0≤n46∧n46≤(t.phases.length:Int))∧((z9.length:Int)=n46)∧(Cn z6 t.phases.length)∧(Cn z7 t.phases.length)∧(Cn z8 t.phases.length)) (fun((z6,z7,z8,z9,_),((_,_,_,_,_,_,_,_,_,_,_,_,_,_,_,_,_,_,_,_,_,_,_,_,_,_,_,_,_,_,_,_),(_,_,_,_),_),_,_,n46,_)=>((t.phases.length:Int)-n46).toNat) ⟨_,_,_,_,_,rfl,by omega,by simp,p1,p2,p3⟩ (by simp only[NN];omega) ?_
  rintro r5 _ ⟨z6,z7,z8,z9,n46,rfl,hr5_0,hr5_1,hr5_2,hr5_3,hr5_4⟩ ihr5
  have m6:=hr5_2.1
  have m7:=hr5_3.1
  have m8:=hr5_4.1
  refine W_if (fun c9=>?_) fun c9=>?_
  ·refine W_rb (by omega) ?_
   refine qaf (by omega) ?_
   refine qac fun n51 hn51=>?_
   refine W_rb (by omega) ?_
   refine qaf (by omega) ?_
   refine qac fun n52 hn52=>?_
   refine W_rb (by omega) ?_
   refine qaf (by omega) ?_
   refine qac fun n53 hn53=>?_
   refine qac fun n54 hn54=>?_
   refine qac fun n55 hn55=>?_
   refine W_rb (by omega) ?_
   refine qaf (by omega) ?_
   refine qac fun n56 hn56=>?_
   refine qac fun n57 hn57=>?_
   refine qab (q8v) ?_
   rintro n58 hn58
   refine qab (q8v) ?_
   rintro n59 hn59
   refine qab (fixDiv_w) ?_
   rintro⟨n60,n61⟩ hn60
   refine W_rm (by omega) ?_
   refine qac fun z62 hz62=>?_
   have lz62:=congrArg List.length hz62;try simp at lz62
   refine W_rb (by omega) ?_
   refine qaf (by omega) ?_
   refine qac fun z63 hz63=>?_
   have lz63:=congrArg List.length hz63;try simp at lz63
   have s63:=hr5_2.set hz63 (by omega)
   have m63:=s63.1
   refine W_rb (by omega) ?_
   refine qaf (by omega) ?_
   refine qac fun z64 hz64=>?_
   have lz64:=congrArg List.length hz64;try simp at lz64
   have s64:=hr5_3.set hz64 (by omega)
   have m64:=s64.1
   refine W_rb (by omega) ?_
   refine qaf (by omega) ?_
   refine qac fun z65 hz65=>?_
   have lz65:=congrArg List.length hz65;try simp at lz65
   have s65:=hr5_4.set hz65 (by omega)
   have m65:=s65.1
   refine qah (by omega) fun n66 hn66=>?_
   refine W_rs (by omega) ?_
   refine W_rs (by omega) ?_
   refine W_rs (by omega) ?_
   refine W_rs (by omega) ?_
   exact ihr5.use _ ⟨_,_,_,_,_,rfl,by omega,by omega,s63,s64,s65⟩ (by dsimp only;omega)
  ·refine qab (qzN (by rw[List.take_length];omega) p6) ?_
   rintro⟨z47,n48⟩ hz47
   dsimp only at hz47
   refine qab (qmP (by dsimp only;rw[List.take_length];omega)) ?_
   rintro⟨z49,n50⟩ hz49
   dsimp only at hz49
   refine W_rs rfl ?_
   refine W_rs rfl ?_
   refine W_rs rfl ?_
   refine qaa ?_
   exact⟨_,_,_,_,_,rfl,hn1 (Classical.not_not.1 fun h=>by simp_all),hr5_2,hr5_3,hr5_4⟩
end Go.Proofs.YtcdppfnjidlknaaGreatDoor
namespace Go.Proofs.YtcdppfnjidlknaaGreatDoor
open Go Go.Eng Go.Proofs Go.Wp
theorem qqX {s:SiteT}{z z':List SeenT}{st st':Int}{fl fl':Bool}{l:List UInt8}(ok:SOk s)(h:qb4 s z st fl)(nf:qdG s z st fl l)(b:qul s z st fl l z' st' fl'):qb4 s z' st' fl':=by
  obtain⟨⟨bl,ba⟩,bf,G,hG,bs⟩:=b
  obtain⟨nl,nf⟩:=nf
  have g1:=hG.1
  have h1:=h.2.1
  have asp:∀ i:Nat,(i:Int)<s.groups.length→As z' i=La l i:=fun i hi=>by unfold As;rw[ba i hi];rfl
  refine⟨bl,?_,fun f i hi=>?_,fun f=>?_⟩
  · rw[bs];split
    · exact g1
    · split<;>omega
  · dsimp only;rw[asp i hi];exact bf.1 f i (by omega)
  · have na:¬ AllF l:=fun e=>by rw[bf.2 e] at f;cases f
    obtain⟨n1,n2,n3,n4,n5⟩:=nf.resolve_left na
    have r13:∀ i:Nat,(i:Int)<s.groups.length→1≤La l i∧La l i≤3:=by
      intro i hi
      cases hf:fl
      · exact(n3 hf i hi).2.1
      · have:=n2 (.inl hf) i (by omega);dsimp only at this;omega
    have mt:∀ a b:Nat,(a:Int)<s.groups.length→b<a→ap s a b=true→La l a=1∨La l b=1:=by
      intro a b ha hb p
      by_cases c:La l a=1
      · exact .inl c
      · by_cases d:La l b=1
        · exact .inr d
        · have:=n4 a (by omega) c b (by omega) d;rw[p] at this;cases this
    refine⟨fun i hi=>by dsimp only;rw[asp i hi];exact r13 i hi,fun t i hi=>?_,fun a ha b hb p=>?_⟩
    · dsimp only;rw[asp i hi]
      refine n2 ?_ i (by omega)
      rw[bs,if_neg (by rw[f];simp)] at t
      cases hf:fl
      · rw[if_neg (by rw[hf];simp)] at t;exact .inr (by omega)
      · exact .inl rfl
    · rw[asp a ha,asp b hb]
      have pk:=ok.apart.2 a ha b hb
      have ne:=(pk.2.1 p).1
      rcases Nat.lt_or_ge b a with c|c
      · exact mt a b ha c p
      · exact(mt b a hb (by omega) (pk.1▸p)).symm
def InOk (i:Inp):Prop:=i.bytesf.length≤1000000000∧(0≤i.eyesf∧i.eyesf<4294967296)∧i.backf.length≤1000000000
def lnk (x:LocT):Bool×Int×Int×List UInt8:=(x.any,x.last,x.lage,x.rest)
structure Went (s:SiteT) (x:LocT) (i:Inp) (y:LocT) (l:List UInt8):Prop where
  nf:qdG s x.seen x.start x.flashed l
  now:qul s x.seen x.start x.flashed l y.seen y.start y.flashed
  flash:AllF l↔y.mode=0
  rung:∃ f1 f2 f3 f4,Rung s x.mode x.well x.latched f1 f2 f3 f4 y.mode y.well y.latched∧(f1=true→y.age<s.watch)∧(f4=false↔s.feed≤y.wrong)
  age:∃ b h,qbG s x i [] [] [] [] []=some (b,h)∧y.age=(if b=true then 0 else min (x.age+1) 1048576)∧lnk y=lnk h.2.1
  wrong:∃ w,(w.length=s.groups.length∧FA (fun k=>La w k=As x.seen k) s.groups.length)∧(i.backf≠[]∧i.backf≠w→y.wrong=min (x.wrong+1) 1048576)∧(¬ (i.backf≠[]∧i.backf≠w)→y.wrong=0)
structure Lost (s:SiteT) (x:LocT) (y:LocT) (l:List UInt8):Prop where
  all:l=List.replicate s.groups.length (UInt8.ofNat 4)
  now:qul s x.seen x.start x.flashed l y.seen y.start y.flashed
  mode:y.mode=1∨y.mode=2
  well:y.well=0
  lat:y.latched=false
  wrong:y.wrong=0
  age:y.age=1048576
  link:lnk y=(false,0,0,[])
  sent:y.tick=min (x.tick+1) 1073741824∧y.sent=x.sent
structure Kp (x y:LocT):Prop where
  seen:y.seen=x.seen
  start:y.start=x.start
  fl:y.flashed=x.flashed
  mode:y.mode=x.mode
  well:y.well=x.well
  lat:y.latched=x.latched
section
variable {t : SiteT} {t2 : LocT} {t3 : Inp} {t4 : List Put} {t5 : List Pls} {t6 : List UInt8} {t7 : List UInt8} {t8 : List UInt8}
theorem hear2 (p0:SG t)(p1:LOk t t2)(p2:t3.bytesf.length≤1000000000):W (qbG t t2 t3 t4 t5 t6 t7 t8) (fun r=>(∃ y,(t,y,t3,t4,t5,t6,t7,t8)=r.2∧LOk t y∧Kp t2 y∧(y.wrong=t2.wrong∧y.tick=t2.tick∧y.sent=t2.sent)∧y.age=if r.1=true then 0 else min (t2.age+1) 1048576)∧qbG t t2 t3 t4 t5 t6 t7 t8=some r):=by
  refine(qna (qug p0 p1 p2)).mono ?_
  rintro⟨b,r⟩⟨⟨an,la,lg,re,cy,og,sp,e,h1,h2,h3,h4⟩,e2⟩
  refine⟨⟨_,e.symm,{p1 with link:=h3,rest:=h1,told:=h2,age:=?_},⟨rfl,rfl,rfl,rfl,rfl,rfl⟩,⟨rfl,rfl,rfl⟩,rfl⟩,e2⟩
  have:=p1.age
  dsimp only
  split<;>omega
theorem see2 (p0:SG t)(p1:LOk t t2)(p2:0≤t3.eyesf∧t3.eyesf<4294967296):W (qfW t t2 t3 t4 t5 t6 t7 t8) (fun r=>∃ y wa,(t,y,t3,t4,wa,t6,t7,t8)=r∧LOk t y∧Kp t2 y∧(y.wrong=t2.wrong∧y.tick=t2.tick∧y.sent=t2.sent∧lnk y=lnk t2)∧y.age=t2.age∧wa.length=t.eyes.length):=by
  refine(q8d p0 p1 p2).mono ?_
  rintro r ⟨pu,ey,ga,ca,wa,e,h1,h2,h3,h4⟩
  exact⟨_,wa,e.symm,{p1 with pulses:=h1,gaps:=h2,eyes:=h4},⟨rfl,rfl,rfl,rfl,rfl,rfl⟩,⟨rfl,rfl,rfl,rfl⟩,rfl,h3⟩
theorem facts2 (p0:SG t)(p1:LOk t t2)(p2:t3.backf.length≤1000000000):W (qcl t t2 t3 t4 t5 t6 t7 t8) (fun r=>∃ y f1 f2 f3 f4 k1 k2 k3 w,(t,y,t3,t4,t5,t6,t7,t8,f1,f2,f3,f4,k1,k2,k3)=r∧LOk t y∧Kp t2 y∧(y.age=t2.age∧y.tick=t2.tick∧y.sent=t2.sent∧lnk y=lnk t2)∧(w.length=t.groups.length∧FA (fun i=>La w i=As t2.seen i) t.groups.length)∧(t3.backf≠[]∧t3.backf≠w→y.wrong=min (t2.wrong+1) 1048576)∧(¬ (t3.backf≠[]∧t3.backf≠w)→y.wrong=0)∧(f1=true→y.age<t.watch)∧(f2=true→0<k3.length)∧(f4=false↔t.feed≤y.wrong)∧(k3.length≤8∧∀ p∈k3,PlB p)):=by
  refine(q2l p0 p1 p2).mono ?_
  rintro r ⟨wr,f1,f2,f3,f4,k1,k2,k3,w,e,h1,h2,h3,h4,h5,h6,h7⟩
  refine⟨_,f1,f2,f3,f4,k1,k2,k3,w,e.symm,{p1 with wrong:=?_},⟨rfl,rfl,rfl,rfl,rfl,rfl⟩,⟨rfl,rfl,rfl,rfl⟩,h1,h2,h3,h4,h5,h6,h7⟩
  have:=p1.wrong
  dsimp only
  by_cases c:t3.backf≠[]∧t3.backf≠w
  · rw[h2 c];omega
  · rw[h3 c];omega
theorem ask2 {k:Int}{k2:Int}{k3:List Plan}(p0:SG t)(p1:LOk t t2)(p2:t2.mode=2→0<k3.length)(p3:∀ p∈k3,p.splits.length≤8):W (qfX t t2 t3 t4 t5 t6 t7 t8 k k2 k3) (fun r=>∃ y asks,(t,y,t3,t4,t5,asks,t7,t8)=r∧LOk t y∧Kp t2 y∧(y.wrong=t2.wrong∧y.tick=t2.tick∧y.sent=t2.sent∧lnk y=lnk t2)∧y.age=t2.age∧asks.length=t.groups.length∧(AllF asks↔y.mode=0)):=by
  have q:=p0.ok.shape.1
  refine(q8c p0 p1 p2 p3).mono ?_
  rintro r ⟨ph,si,asks,e,h1,h2,h3,h4⟩
  refine⟨_,asks,e.symm,{p1 with seq:=h1},⟨rfl,rfl,rfl,rfl,rfl,rfl⟩,⟨rfl,rfl,rfl,rfl⟩,rfl,h2,fun a=>?_,h3⟩
  dsimp only
  by_cases c:t2.mode=0
  · exact c
  · have a0:=a 0 (by omega)
    have b0:=h4 c 0 (by omega)
    dsimp only at a0 b0;omega
theorem lose2 (p0:SG t)(p1:LOk t t2)(p2:t4.length≤1000∧∀ p∈t4,p.data.length=64):W (qd7 t t2 t3 t4 t5 t6 t7 t8) (fun r=>∃ y,(t,y,t3,t4,t5,t6,List.replicate t.groups.length (UInt8.ofNat 4),t8)=r∧LOk t y∧Lost t t2 y (List.replicate t.groups.length (UInt8.ofNat 4))):=by
  refine(q5B p0 p1 p2).mono ?_
  rintro r ⟨x,z,st,fl,e,n,b⟩
  have nf:qdG t t2.seen t2.start t2.flashed (List.replicate t.groups.length (UInt8.ofNat 4)):=⟨by simp,.inl fun k hk=>rep4 (by simpa using hk)⟩
  refine⟨_,e.symm,{n.ok with now:=qqX p0.ok p1.now nf b,tick:=?_,sent:=p1.sent},⟨rfl,b,n.mode,n.well,n.lat,n.wrong,n.age,by obtain⟨a1,a2,a3,a4⟩:=n.link;unfold lnk;dsimp only;rw[a1,a2,a3,a4],rfl,rfl⟩⟩
  have:=p1.tick
  dsimp only;omega
end
structure Ran (s:SiteT) (x:LocT) (i:Inp) (y:LocT) (l:List UInt8):Prop where
  ok:LOk s y
  went:i.lostf=false→Went s x i y l
  lost:i.lostf=true→Lost s x y l
theorem q4x {s:SiteT}{x y:LocT}{i:Inp}{l:List UInt8}(c:¬ i.lostf=true)(ok:LOk s y)(w:Went s x i y l):Ran s x i y l:=⟨ok,fun _=>w,fun h=>absurd h c⟩
theorem q4y {s:SiteT}{x y:LocT}{i:Inp}{l:List UInt8}(c:i.lostf=true)(ok:LOk s y)(w:Lost s x y l):Ran s x i y l:=⟨ok,fun h=>(by rw[c] at h;cases h),fun _=>w⟩
theorem qqY {t:SiteT}{t2:LocT}{t3:Inp}{t4:List Put}{t5:List Pls}{t6:List UInt8}{t7:List UInt8}{t8:List UInt8}(p0:SG t)(p1:LOk t t2)(p2:InOk t3)(p3:t4=[])(p4:t5=[])(p5:t6=[])(p6:t7=[])(p7:t8=[]):W (qfY t t2 t3 t4 t5 t6 t7 t8) (fun r=>r.1=t∧Ran t t2 t3 r.2.1 r.2.2.2.2.2.2.1):=by
 unfold qfY qnT
 subst p3 p4 p5 p6 p7
 refine qab (hear2 p0 p1 p2.1) ?_
 rintro⟨b1,x2,x3,x4,z5,z6,z7,z8,z9⟩ hb1
 dsimp only at hb1
 obtain⟨⟨y1,e,ok1,kp1,wtt1,age1⟩,hh⟩:=hb1
 simp only[Prod.mk.injEq] at e
 obtain⟨rfl,rfl,rfl,rfl,rfl,rfl,rfl,rfl⟩:=e
 refine W_if (fun c1=>?_) fun c1=>?_
 ·refine qab (q2k p0 ok1) ?_
  rintro⟨x131,x132,x133,z134,z135,z136,z137,z138⟩ hx131
  dsimp only at hx131
  obtain⟨e,pt⟩:=hx131
  simp only[Prod.mk.injEq] at e
  obtain⟨rfl,rfl,rfl,rfl,rfl,rfl,rfl⟩:=e
  have pt2:z134.length≤1000∧∀ p∈z134,p.data.length=64:=by
   rcases pt with h|h
   · rw[← h];exact⟨by simp,fun p hp=>by simp at hp⟩
   · exact⟨by omega,h.2⟩
  refine W_if (fun c2=>?_) fun c2=>?_
  ·refine qab (lose2 p0 ok1 (pt2)) ?_
   rintro⟨x252,x253,x254,z255,z256,z257,z258,z259⟩ hx252
   obtain⟨y2,e,ok2,lo⟩:=hx252
   simp only[Prod.mk.injEq] at e
   obtain⟨rfl,rfl,rfl,rfl,rfl,rfl,rfl,rfl⟩:=e
   refine qaa ?_
   refine⟨rfl,q4y (by assumption) ok2 ⟨lo.all,?_,lo.mode,lo.well,lo.lat,lo.wrong,lo.age,lo.link,?_⟩⟩
   · have:=lo.now;rw[kp1.seen,kp1.start,kp1.fl] at this;exact this
   · have:=lo.sent;rw[wtt1.2.1,wtt1.2.2] at this;exact this
  ·refine qab (qk0 (d:=y1.disk) ok1.disk (pt2) (by omega)) ?_
   rintro⟨z139,n140⟩ hz139
   dsimp only at hz139
   have ok2:LOk t {y1 with disk:=z139}:={ok1 with disk:=hz139}
   refine qab (see2 p0 ok2 p2.2.1) ?_
   rintro⟨x141,x142,x143,z144,z145,z146,z147,z148⟩ hx141
   dsimp only at hx141
   obtain⟨y3,wa,e,ok3,kp3,wtt3,age3,lw⟩:=hx141
   simp only[Prod.mk.injEq] at e
   obtain⟨rfl,rfl,rfl,rfl,rfl,rfl,rfl,rfl⟩:=e
   refine qab (facts2 p0 ok3 p2.2.2) ?_
   rintro⟨x149,x150,x151,z152,z153,z154,z155,z156,b157,b158,b159,b160,n161,n162,z163⟩ hx149
   obtain⟨y4,f1,f2,f3,f4,k1,k2,k3,w,e,ok4,kp4,wtt4,hw,hw1,hw2,hf1,hf2,hf4,hk⟩:=hx149
   simp only[Prod.mk.injEq] at e
   obtain⟨rfl,rfl,rfl,rfl,rfl,rfl,rfl,rfl,rfl,rfl,rfl,rfl,rfl,rfl,rfl⟩:=e
   refine qab (qmQ p0 ok4.rung (fun h=>(ok4.lat.1 h)) ok4.lat.2) ?_
   rintro⟨n164,n165,n166,b167⟩ hn164
   dsimp only at hn164
   obtain⟨-,rg⟩:=hn164
   have rg2:=rg
   obtain⟨r1,r2,r3,r4,r5,r6,r7,r8,r9⟩:=rg2
   have ok5:LOk t {y4 with mode:=n165,well:=n166,latched:=b167}:={ok4 with rung:=r4,lat:=⟨r2,r3⟩}
   refine qab (ask2 p0 ok5 (fun h=>hf2 (r6 (by dsimp only at h;omega))) (fun p hp=>(hk.2 p hp).1)) ?_
   rintro⟨x168,x169,x170,z171,z172,z173,z174,z175⟩ hx168
   dsimp only at hx168
   obtain⟨y6,asks,e,ok6,kp6,wtt6,age6,la6,fl6⟩:=hx168
   simp only[Prod.mk.injEq] at e
   obtain⟨rfl,rfl,rfl,rfl,rfl,rfl,rfl,rfl⟩:=e
   refine qab (qrd p0 ok6.now la6) ?_
   rintro⟨z176,n177⟩ hz176
   dsimp only at hz176
   obtain⟨-,nf,af⟩:=hz176
   refine qab (qed p0 ok6.now (by have:=nf.1;have:=p0.ok.shape.1;omega)) ?_
   rintro⟨n178,n179,z180,n181,b182⟩ hn178
   dsimp only at hn178
   have bh:=hn178.2.2.1 (hn178.2.1.2 nf)
   have ok7:LOk t {y6 with seen:=z180,start:=n181,flashed:=b182}:={ok6 with now:=qqX p0.ok ok6.now nf bh}
   refine qab (qqW p0 ok7 lw) ?_
   rintro⟨x183,z184,z185,n186,b187,n188,n189,b190,n191,n192,b193,n194,n195,z196,n197,n198,z199,n200,z201,z202,z203,n204,n205,n206,n207,x208,z209,z210,z211,z212,z213,z214,z215,z216⟩ hx183
   dsimp only at hx183
   obtain⟨gr,bu,ca,e,cg,cb,cc⟩:=hx183
   replace e:=e.symm
   simp only[Prod.mk.injEq] at e
   obtain⟨rfl,rfl,rfl,rfl,rfl,rfl,rfl,rfl,rfl,rfl,rfl,rfl,rfl,rfl,rfl,rfl,rfl,rfl,rfl,rfl,rfl,rfl,rfl,rfl,rfl,rfl,rfl,rfl,rfl,rfl,rfl,rfl,rfl,rfl⟩:=e
   refine W_rs rfl ?_
   refine W_rs rfl ?_
   refine W_rs rfl ?_
   refine qab (quh p0 cg cb cc ok6.sent ok6.tick ok6.rung.1.1) ?_
   rintro⟨x217,z218,z219,n220,b221,n222,n223,b224,n225,n226,b227,n228,n229,z230,n231,n232,z233,n234,z235,z236,z237,n238,n239,n240,n241,x242,z243,z244,z245,z246,z247,z248,z249,z250⟩ hx217
   obtain⟨se,ou,gr2,bu2,ca2,e,hse,cg2,cb2,cc2⟩:=hx217
   replace e:=e.symm
   simp only[Prod.mk.injEq] at e
   obtain⟨rfl,rfl,rfl,rfl,rfl,rfl,rfl,rfl,rfl,rfl,rfl,rfl,rfl,rfl,rfl,rfl,rfl,rfl,rfl,rfl,rfl,rfl,rfl,rfl,rfl,rfl,rfl,rfl,rfl,rfl,rfl,rfl,rfl,rfl⟩:=e
   refine qab (qaA ok6.tick (by have:=ok6.tick;omega)) ?_
   rintro n251 hn251
   refine qaa ?_
   refine⟨rfl,q4x (by assumption) {ok7 with tick:=?_,sent:=hse,greens:=?_,busy:=?_,came:=?_} ?_⟩
   · dsimp only;rw[List.take_length];exact cg2
   · dsimp only;rw[List.take_length];exact cb2
   · dsimp only;rw[List.take_length];exact cc2
   · have:=ok6.tick;dsimp only;omega
   have g3:=kp3.seen;have g4:=kp4.seen;have g6:=kp6.seen
   dsimp only at g3 g6
   have s3:=kp3.start;have s4:=kp4.start;have s6:=kp6.start
   dsimp only at s3 s6
   have f3':=kp3.fl;have f4':=kp4.fl;have f6':=kp6.fl
   dsimp only at f3' f6'
   have es:y6.seen=t2.seen:=by rw[g6,g4,g3,kp1.seen]
   have et:y6.start=t2.start:=by rw[s6,s4,s3,kp1.start]
   have ef:y6.flashed=t2.flashed:=by rw[f6',f4',f3',kp1.fl]
   have es3:y3.seen=t2.seen:=by rw[g3,kp1.seen]
   have em:y4.mode=t2.mode:=by rw[kp4.mode,kp3.mode];exact kp1.mode
   have ew:y4.well=t2.well:=by rw[kp4.well,kp3.well];exact kp1.well
   have el:y4.latched=t2.latched:=by rw[kp4.lat,kp3.lat];exact kp1.lat
   have em6:y6.mode=n165:=kp6.mode
   have ew6:y6.well=n166:=kp6.well
   have el6:y6.latched=b167:=kp6.lat
   have ea:y6.age=y1.age:=by rw[age6];(try dsimp only);rw[wtt4.1,age3]
   have ea4:y4.age=y6.age:=by rw[age6]
   have eg:y6.wrong=y4.wrong:=wtt6.1
   have eg3:y3.wrong=t2.wrong:=by rw[wtt3.1];exact wtt1.1
   refine⟨es▸et▸ef▸nf,es▸et▸ef▸bh,af.trans fl6,⟨f1,f2,f3,f4,?_,?_,?_⟩,⟨b1,_,hh,?_,wtt6.2.2.2.trans (wtt4.2.2.2.trans wtt3.2.2.2)⟩,⟨w,⟨hw.1,es3▸hw.2⟩,?_,?_⟩⟩
   · dsimp only;rw[em6,ew6,el6,← em,← ew,← el];exact rg
   · dsimp only;rw[← ea4];exact hf1
   · dsimp only;rw[eg];exact hf4
   · dsimp only;rw[ea];exact age1
   · dsimp only;rw[eg,← eg3];exact hw1
   · dsimp only;rw[eg];exact hw2
 ·refine W_if (fun c6=>?_) fun c6=>?_
  ·refine qab (lose2 p0 ok1 (⟨by simp,fun p hp=>by simp at hp⟩)) ?_
   rintro⟨x123,x124,x125,z126,z127,z128,z129,z130⟩ hx123
   obtain⟨y2,e,ok2,lo⟩:=hx123
   simp only[Prod.mk.injEq] at e
   obtain⟨rfl,rfl,rfl,rfl,rfl,rfl,rfl,rfl⟩:=e
   refine qaa ?_
   refine⟨rfl,q4y (by assumption) ok2 ⟨lo.all,?_,lo.mode,lo.well,lo.lat,lo.wrong,lo.age,lo.link,?_⟩⟩
   · have:=lo.now;rw[kp1.seen,kp1.start,kp1.fl] at this;exact this
   · have:=lo.sent;rw[wtt1.2.1,wtt1.2.2] at this;exact this
  ·refine qab (qk0 (d:=y1.disk) ok1.disk (⟨by simp,fun p hp=>by simp at hp⟩) (by omega)) ?_
   rintro⟨z10,n11⟩ hz10
   dsimp only at hz10
   have ok2:LOk t {y1 with disk:=z10}:={ok1 with disk:=hz10}
   refine qab (see2 p0 ok2 p2.2.1) ?_
   rintro⟨x12,x13,x14,z15,z16,z17,z18,z19⟩ hx12
   dsimp only at hx12
   obtain⟨y3,wa,e,ok3,kp3,wtt3,age3,lw⟩:=hx12
   simp only[Prod.mk.injEq] at e
   obtain⟨rfl,rfl,rfl,rfl,rfl,rfl,rfl,rfl⟩:=e
   refine qab (facts2 p0 ok3 p2.2.2) ?_
   rintro⟨x20,x21,x22,z23,z24,z25,z26,z27,b28,b29,b30,b31,n32,n33,z34⟩ hx20
   obtain⟨y4,f1,f2,f3,f4,k1,k2,k3,w,e,ok4,kp4,wtt4,hw,hw1,hw2,hf1,hf2,hf4,hk⟩:=hx20
   simp only[Prod.mk.injEq] at e
   obtain⟨rfl,rfl,rfl,rfl,rfl,rfl,rfl,rfl,rfl,rfl,rfl,rfl,rfl,rfl,rfl⟩:=e
   refine qab (qmQ p0 ok4.rung (fun h=>(ok4.lat.1 h)) ok4.lat.2) ?_
   rintro⟨n35,n36,n37,b38⟩ hn35
   dsimp only at hn35
   obtain⟨-,rg⟩:=hn35
   have rg2:=rg
   obtain⟨r1,r2,r3,r4,r5,r6,r7,r8,r9⟩:=rg2
   have ok5:LOk t {y4 with mode:=n36,well:=n37,latched:=b38}:={ok4 with rung:=r4,lat:=⟨r2,r3⟩}
   refine qab (ask2 p0 ok5 (fun h=>hf2 (r6 (by dsimp only at h;omega))) (fun p hp=>(hk.2 p hp).1)) ?_
   rintro⟨x39,x40,x41,z42,z43,z44,z45,z46⟩ hx39
   dsimp only at hx39
   obtain⟨y6,asks,e,ok6,kp6,wtt6,age6,la6,fl6⟩:=hx39
   simp only[Prod.mk.injEq] at e
   obtain⟨rfl,rfl,rfl,rfl,rfl,rfl,rfl,rfl⟩:=e
   refine qab (qrd p0 ok6.now la6) ?_
   rintro⟨z47,n48⟩ hz47
   dsimp only at hz47
   obtain⟨-,nf,af⟩:=hz47
   refine qab (qed p0 ok6.now (by have:=nf.1;have:=p0.ok.shape.1;omega)) ?_
   rintro⟨n49,n50,z51,n52,b53⟩ hn49
   dsimp only at hn49
   have bh:=hn49.2.2.1 (hn49.2.1.2 nf)
   have ok7:LOk t {y6 with seen:=z51,start:=n52,flashed:=b53}:={ok6 with now:=qqX p0.ok ok6.now nf bh}
   refine qab (qqW p0 ok7 lw) ?_
   rintro⟨x54,z55,z56,n57,b58,n59,n60,b61,n62,n63,b64,n65,n66,z67,n68,n69,z70,n71,z72,z73,z74,n75,n76,n77,n78,x79,z80,z81,z82,z83,z84,z85,z86,z87⟩ hx54
   dsimp only at hx54
   obtain⟨gr,bu,ca,e,cg,cb,cc⟩:=hx54
   replace e:=e.symm
   simp only[Prod.mk.injEq] at e
   obtain⟨rfl,rfl,rfl,rfl,rfl,rfl,rfl,rfl,rfl,rfl,rfl,rfl,rfl,rfl,rfl,rfl,rfl,rfl,rfl,rfl,rfl,rfl,rfl,rfl,rfl,rfl,rfl,rfl,rfl,rfl,rfl,rfl,rfl,rfl⟩:=e
   refine W_rs rfl ?_
   refine W_rs rfl ?_
   refine W_rs rfl ?_
   refine qab (quh p0 cg cb cc ok6.sent ok6.tick ok6.rung.1.1) ?_
   rintro⟨x88,z89,z90,n91,b92,n93,n94,b95,n96,n97,b98,n99,n100,z101,n102,n103,z104,n105,z106,z107,z108,n109,n110,n111,n112,x113,z114,z115,z116,z117,z118,z119,z120,z121⟩ hx88
   obtain⟨se,ou,gr2,bu2,ca2,e,hse,cg2,cb2,cc2⟩:=hx88
   replace e:=e.symm
   simp only[Prod.mk.injEq] at e
   obtain⟨rfl,rfl,rfl,rfl,rfl,rfl,rfl,rfl,rfl,rfl,rfl,rfl,rfl,rfl,rfl,rfl,rfl,rfl,rfl,rfl,rfl,rfl,rfl,rfl,rfl,rfl,rfl,rfl,rfl,rfl,rfl,rfl,rfl,rfl⟩:=e
   refine qab (qaA ok6.tick (by have:=ok6.tick;omega)) ?_
   rintro n122 hn122
   refine qaa ?_
   refine⟨rfl,q4x (by assumption) {ok7 with tick:=?_,sent:=hse,greens:=?_,busy:=?_,came:=?_} ?_⟩
   · dsimp only;rw[List.take_length];exact cg2
   · dsimp only;rw[List.take_length];exact cb2
   · dsimp only;rw[List.take_length];exact cc2
   · have:=ok6.tick;dsimp only;omega
   have g3:=kp3.seen;have g4:=kp4.seen;have g6:=kp6.seen
   dsimp only at g3 g6
   have s3:=kp3.start;have s4:=kp4.start;have s6:=kp6.start
   dsimp only at s3 s6
   have f3':=kp3.fl;have f4':=kp4.fl;have f6':=kp6.fl
   dsimp only at f3' f6'
   have es:y6.seen=t2.seen:=by rw[g6,g4,g3,kp1.seen]
   have et:y6.start=t2.start:=by rw[s6,s4,s3,kp1.start]
   have ef:y6.flashed=t2.flashed:=by rw[f6',f4',f3',kp1.fl]
   have es3:y3.seen=t2.seen:=by rw[g3,kp1.seen]
   have em:y4.mode=t2.mode:=by rw[kp4.mode,kp3.mode];exact kp1.mode
   have ew:y4.well=t2.well:=by rw[kp4.well,kp3.well];exact kp1.well
   have el:y4.latched=t2.latched:=by rw[kp4.lat,kp3.lat];exact kp1.lat
   have em6:y6.mode=n36:=kp6.mode
   have ew6:y6.well=n37:=kp6.well
   have el6:y6.latched=b38:=kp6.lat
   have ea:y6.age=y1.age:=by rw[age6];(try dsimp only);rw[wtt4.1,age3]
   have ea4:y4.age=y6.age:=by rw[age6]
   have eg:y6.wrong=y4.wrong:=wtt6.1
   have eg3:y3.wrong=t2.wrong:=by rw[wtt3.1];exact wtt1.1
   refine⟨es▸et▸ef▸nf,es▸et▸ef▸bh,af.trans fl6,⟨f1,f2,f3,f4,?_,?_,?_⟩,⟨b1,_,hh,?_,wtt6.2.2.2.trans (wtt4.2.2.2.trans wtt3.2.2.2)⟩,⟨w,⟨hw.1,es3▸hw.2⟩,?_,?_⟩⟩
   · dsimp only;rw[em6,ew6,el6,← em,← ew,← el];exact rg
   · dsimp only;rw[← ea4];exact hf1
   · dsimp only;rw[eg];exact hf4
   · dsimp only;rw[ea];exact age1
   · dsimp only;rw[eg,← eg3];exact hw1
   · dsimp only;rw[eg];exact hw2
end Go.Proofs.YtcdppfnjidlknaaGreatDoor
namespace Go.Proofs.YtcdppfnjidlknaaGreatDoor
open Go Go.Eng Go.Proofs Go.Wp
noncomputable section
def stp (s:SiteT)(x:LocT)(i:Inp):LocT×List UInt8:=match qfY s x i [] [] [] [] [] with
  |some r=>(r.2.1,r.2.2.2.2.2.2.1)
  |none=>(x,[])
def XS (s:SiteT)(x:LocT)(l:List Inp):Nat→LocT
  |0=>x
  |k+1=>(stp s (XS s x l k) (l.getD k (dflt 24))).1
def LS (s:SiteT)(x:LocT)(l:List Inp)(k:Nat):List UInt8:=(stp s (XS s x l k) (l.getD k (dflt 24))).2
def MS (s:SiteT)(x:LocT)(l:List Inp)(k:Nat):UInt8:=UInt8.ofNat (XS s x l (k+1)).mode.toNat
theorem q8e {s:SiteT}{x:LocT}{i:Inp}(sg:SG s)(ok:LOk s x)(h:InOk i):Ran s x i (stp s x i).1 (stp s x i).2:=by
  obtain⟨r,e,-,p⟩:=qqY sg ok h rfl rfl rfl rfl rfl
  unfold stp
  rw[e];exact p
theorem q5C {s:SiteT}{x:LocT}{l:List Inp}(sg:SG s)(ok:LOk s x)(h:∀ i∈l,InOk i):∀ k:Nat,k≤l.length→LOk s (XS s x l k)
  |0,_=>ok
  |k+1,hk=>(q8e sg (q5C sg ok h k (by omega)) (by rw[qbK (show k<l.length by omega)];exact h _ (List.getElem_mem _))).ok
theorem q8f {s:SiteT}{x:LocT}{l:List Inp}(sg:SG s)(ok:LOk s x)(h:∀ i∈l,InOk i){k:Nat}(hk:k<l.length):Ran s (XS s x l k) (l.getD k (dflt 24)) (XS s x l (k+1)) (LS s x l k) :=
  q8e sg (q5C sg ok h k (by omega)) (by rw[qbK hk];exact h _ (List.getElem_mem _))
theorem xs_next {s:SiteT} {x0 x:LocT} {l:List Inp} {i:Inp} {n m:Int} {r:SiteT×LocT×Inp×List Put×List Pls×List UInt8×List UInt8×List UInt8} (h:x=XS s x0 l n.toNat) (hi:i=l.getD n.toNat (dflt 24)) (e:qfY s x i [] [] [] [] []=some r) (hn:0≤n) (hm:m=n+1) :
    r.2.1=XS s x0 l m.toNat∧(List.range m.toNat).map (LS s x0 l)=(List.range n.toNat).map (LS s x0 l)++[r.2.2.2.2.2.2.1]∧(List.range m.toNat).map (MS s x0 l)=(List.range n.toNat).map (MS s x0 l)++[UInt8.ofNat r.2.1.mode.toNat]:=by
  have em:m.toNat=n.toNat+1:=by omega
  have es:stp s x i=(r.2.1,r.2.2.2.2.2.2.1):=by unfold stp;rw[e]
  have e1:r.2.1=XS s x0 l (n.toNat+1):=by
    show r.2.1=(stp s (XS s x0 l n.toNat) (l.getD n.toNat (dflt 24))).1
    rw[← h,← hi,es]
  rw[em]
  refine⟨e1,?_,?_⟩
  · rw[List.range_succ,List.map_append,List.map_singleton]
    unfold LS
    rw[← h,← hi,es]
  · rw[List.range_succ,List.map_append,List.map_singleton]
    unfold MS
    rw[← e1]
structure Run (s:SiteT) (d:List UInt8) (l:List Inp) (r:List (List UInt8)×List UInt8×Int):Prop where
  sg:SG s
  new:∃ x0,qb3 s d=some (0,x0)∧LNew s x0∧r=((List.range l.length).map (LS s x0 l),(List.range l.length).map (MS s x0 l),0)
theorem qui {s:SiteT}{d:List UInt8}{l:List Inp}(p0:SSm s)(p1:SWf s)(p2:d.length≤1000000)(p3:l.length≤4000)(p4:∀ i∈l,InOk i):W (qeW s d l) (fun r=>(∃ n x0,n≠0∧qb3 s d=some (n,x0)∧r=([],[],n))∨Run s d l r):=by
 unfold qeW qec
 refine qab (qna (q0f p0 p1 p2)) ?_
 rintro⟨n1,x2⟩ hn1
 dsimp only at hn1
 obtain⟨hn1,en1⟩:=hn1
 refine W_if (fun c1=>?_) fun c1=>?_
 ·refine qaa ?_
  exact .inl ⟨n1,x2,c1,en1,rfl⟩
 ·have e0:n1=0:=Classical.not_not.1 c1
  subst e0
  obtain⟨sg,new⟩:=hn1 rfl
  refine W_if (fun c2=>?_) fun c2=>?_
  ·refine qaa ?_
   exfalso;omega
  ·refine qaj (fun v=>∃ z4 z5 x7 n10,v=((z4,z5,()),((s,()),(x7,()),()),l,(l.length:Int),n10,())∧(0≤n10∧n10≤(l.length:Int))∧(LOk s x7)∧(x7=XS s x2 l n10.toNat)∧(z4=(List.range n10.toNat).map (LS s x2 l))∧(z5=(List.range n10.toNat).map (MS s x2 l))) (fun((z4,z5,_),((_,_),(x7,_),_),_,_,n10,_)=>((l.length:Int)-n10).toNat) ⟨_,_,_,_,rfl,by omega,new.ok,rfl,rfl,rfl⟩ (by simp only[NN];omega) ?_
   rintro r3 _ ⟨z4,z5,x7,n10,rfl,hr3_0,hr3_1,hr3_2,hr3_3,hr3_4⟩ ihr3
   refine W_if (fun c3=>?_) fun c3=>?_
   ·refine W_ix (by omega) fun x11 hx11=>?_
    refine qab (qna (qqY sg hr3_1 (by rw[hx11];exact qaq p4 (by omega)) rfl rfl rfl rfl rfl)) ?_
    rintro⟨x12,x13,x14,z15,z16,z17,z18,z19⟩ hx12
    dsimp only at hx12
    obtain⟨⟨es,rn⟩,e12⟩:=hx12
    subst x12
    have l4:z4.length=n10.toNat:=by rw[hr3_3];simp
    have l5:z5.length=n10.toNat:=by rw[hr3_4];simp
    have xn:=fun(m:Int)=>xs_next (m:=m) hr3_2 hx11 e12 (by omega)
    dsimp only at xn rn
    refine qa3 (fun((z51,z52,_),((x53,_),(x54,_),_),z55,n56,n57,_)=>s=x53∧x13=x54∧l=z55∧(l.length:Int)=n56∧n10=n57∧(z51=z4++[z18]∧z52=z5++[UInt8.ofNat x13.mode.toNat])) (fun J20 hJ20=>?_) ?_
    ·refine W_sm ?_
     refine W_rm (by omega) ?_
     refine qac fun z21 hz21=>?_
     have lz21:=congrArg List.length hz21;try simp at lz21
     refine W_rm (by omega) ?_
     refine qac fun z22 hz22=>?_
     have lz22:=congrArg List.length hz22;try simp at lz22
     refine W_rs (by omega) ?_
     refine W_rs (by omega) ?_
     exact hJ20.use _ (by dsimp only;exact⟨rfl,rfl,rfl,rfl,rfl,by rw[List.take_length] at hz21;exact hz21,by rw[List.take_length] at hz22;exact hz22⟩)
    ·rintro⟨⟨z51,z52,_⟩,⟨⟨x53,_⟩,⟨x54,_⟩,_⟩,z55,n56,n57,_⟩ kJ20;dsimp only at kJ20
     obtain⟨rfl,rfl,rfl,rfl,rfl,kJ20⟩:=kJ20
     obtain⟨e51,e52⟩:=kJ20
     refine qah (by omega) fun n58 hn58=>?_
     refine W_rs rfl ?_
     refine W_rs rfl ?_
     exact ihr3.use _ ⟨_,_,_,_,rfl,by omega,rn.ok,(xn n58 hn58).1,by rw[(xn n58 hn58).2.1,e51,hr3_3],by rw[(xn n58 hn58).2.2,e52,hr3_4]⟩ (by dsimp only;omega)
   ·refine qaa ?_
    rw[List.take_length,List.take_length,hr3_3,hr3_4,show n10.toNat=l.length by omega];exact .inr ⟨sg,x2,en1,new,rfl⟩
end
end Go.Proofs.YtcdppfnjidlknaaGreatDoor
namespace Go.Proofs.YtcdppfnjidlknaaGreatDoor
open Go Go.Eng Go.Proofs Go.Wp
theorem alive_ok:qww=some true:=by kernel_rfl
def InT (i:Inp):Prop:=(0≤i.eyesf∧i.eyesf<4294967296)∧i.bytesf.length≤140737488355328∧i.backf.length≤140737488355328
def bb (i:Inp):Int:=(i.bytesf.length:Int)+(i.backf.length:Int)
def FitOk (s:SiteT)(d:List UInt8)(l:List Inp):Prop:=SSm s∧d.length≤5000∧l.length≤200∧∀ i∈l,bb i≤20000
theorem q8g {s:SiteT}{d:List UInt8}{l:List Inp}(h:FitOk s d l)(t:∀ i∈l,InT i):∀ i∈l,InOk i:=by
  intro i hi
  have h1:=h.2.2.2 i hi
  have h2:=t i hi
  unfold bb at h1
  exact⟨by omega,h2.1,by omega⟩
theorem rng_len {α:Type}{n:Nat}{f:Nat→α}:((List.range n).map f).length=n:=by simp
theorem q8h {s:SiteT}:W (q1g s) (fun r=>r=false→SSm s):=by
 unfold q1g qv9
 refine W_if (fun c1=>?_) fun c1=>?_
 ·refine qaa ?_
  simp
 ·refine qaj (fun v=>∃ n3,v=((),((s,()),()),n3,())∧(0≤n3∧n3≤s.between.length)∧(Upto (fun z:List Int=>z.length≤40) s.between (dflt 7) n3)) (fun(_,((_,_),_),n3,_)=>(s.between.length-n3).toNat) ⟨_,rfl,by omega,Upto.zero⟩ (by simp only[NN];omega) ?_
  rintro r1 _ ⟨n3,rfl,hr1_0,hr1_1⟩ ihr1
  refine W_if (fun c2=>?_) fun c2=>?_
  ·refine W_ix (by omega) fun z9 hz9=>?_
   refine W_if (fun c3=>?_) fun c3=>?_
   ·refine qaa ?_
    simp
   ·refine qah (by omega) fun n10 hn10=>?_
    exact ihr1.use _ ⟨_,rfl,by omega,hr1_1.succ (by omega) hn10 (by rw[← hz9];omega)⟩ (by dsimp only;omega)
  ·refine qaj (fun v=>∃ n6,v=((),((s,()),()),n6,())∧(0≤n6∧n6≤s.plans.length)∧(Upto (fun p:Plan=>p.splits.length≤40) s.plans (dflt 10) n6)) (fun(_,((_,_),_),n6,_)=>(s.plans.length-n6).toNat) ⟨_,rfl,by omega,Upto.zero⟩ (by simp only[NN];omega) ?_
   rintro r4 _ ⟨n6,rfl,hr4_0,hr4_1⟩ ihr4
   refine W_if (fun c4=>?_) fun c4=>?_
   ·refine W_ix (by omega) fun x7 hx7=>?_
    refine W_if (fun c5=>?_) fun c5=>?_
    ·refine qaa ?_
     simp
    ·refine qah (by omega) fun n8 hn8=>?_
     exact ihr4.use _ ⟨_,rfl,by omega,hr4_1.succ (by omega) hn8 (by rw[← hx7];omega)⟩ (by dsimp only;omega)
   ·refine qaa ?_
    exact fun _=>⟨by omega,hr1_1.all (by omega),hr4_1.all (by omega)⟩
theorem q8i {l:List Inp}(p0:l.length≤200)(p1:∀ i∈l,InT i):W (q1h l) (fun r=>∀ i∈l,bb i≤r):=by
 unfold q1h qvA
 refine qaj (fun v=>∃ n3 n4,v=((),(),l,n3,n4,())∧(0≤n4∧n4≤l.length)∧(0≤n3∧n3≤281474976710656*n4+200)∧(FA (fun k=>bb (l.getD k (dflt 24))≤n3) n4)) (fun(_,_,_,n3,n4,_)=>(l.length-n4).toNat) ⟨_,_,rfl,by omega,by omega,FA.zero⟩ (by simp only[NN];omega) ?_
 rintro r1 _ ⟨n3,n4,rfl,hr1_0,hr1_1,hr1_2⟩ ihr1
 refine W_if (fun c1=>?_) fun c1=>?_
 ·refine W_ix (by omega) fun x5 hx5=>?_
  have g5:=qaq (d:=dflt 24) (n:=n4) p1 (by omega)
  rw[← hx5] at g5
  obtain⟨g5,g6,g7⟩:=g5
  refine W_ix (by omega) fun x6 hx6=>?_
  have e6:x6=x5:=by rw[hx6,hx5]
  subst e6
  refine W_wi (by omega) fun n7 hn7=>?_
  have e7:n7=bb x6:=by rw[hn7];rfl
  refine W_wi (by omega) fun n8 hn8=>?_
  refine qah (by omega) fun n9 hn9=>?_
  exact ihr1.use _ ⟨_,_,rfl,by omega,by omega,FA.succ (fun k h=>Int.le_trans (hr1_2 k h) (by omega)) (by omega) hn9 (by rw[← hx5];omega)⟩ (by dsimp only;omega)
 ·refine qaa ?_
  intro i hi
  obtain⟨k,hk,e⟩:=List.getElem_of_mem hi
  have:=hr1_2 k (by omega)
  dsimp only at this
  rw[qbK hk,e] at this;exact this
theorem qzO {s:SiteT}{d:List UInt8}{l:List Inp}(p0:∀ i∈l,InT i):W (qpV s d l) (fun r=>r=true→FitOk s d l):=by
 unfold qpV qvQ
 refine qab (q8h) ?_
 rintro b1 hb1
 refine W_if (fun c1=>?_) fun c1=>?_
 ·refine qab (q8i (by omega) p0) ?_
  rintro n2 hn2
  refine qaa ?_
  intro h;simp only[decide_eq_true_eq] at h
  exact⟨hb1 (by cases b1<;>simp_all),by omega,by omega,fun i hi=>Int.le_trans (hn2 i hi) h⟩
 ·refine qaa ?_
  simp
theorem q8j {a:List (List UInt8)}{b:List (List UInt8)}{many:Int}(p0:a.length≤1000∧b.length≤1000)(p1:many≤a.length∧many≤b.length)(p2:∀ k:Nat,(k:Int)<many→a.getD k (dflt 6)=b.getD k (dflt 6)):W (q1i a b many) (fun r=>r=true):=by
 unfold q1i qvB
 refine W_if (fun c1=>?_) fun c1=>?_
 ·exfalso;omega
 ·refine qaj (fun v=>∃ n5,v=((),(),a,b,many,n5,())∧(0≤n5∧(n5≤many∨n5=0))) (fun(_,_,_,_,_,n5,_)=>(many-n5).toNat) ⟨_,rfl,by omega⟩ (by simp only[NN];omega) ?_
  rintro r1 _ ⟨n5,rfl,hr1_0⟩ ihr1
  refine W_if (fun c2=>?_) fun c2=>?_
  ·refine W_ix (by omega) fun z6 hz6=>?_
   refine W_ix (by omega) fun z7 hz7=>?_
   refine W_if (fun c3=>?_) fun c3=>?_
   ·exact absurd (by rw[hz6,hz7,p2 n5.toNat (by omega)]) c3
   ·refine qah (by omega) fun n8 hn8=>?_
    exact ihr1.use _ ⟨_,rfl,by omega⟩ (by dsimp only;omega)
  ·refine qaa ?_
   rfl
end Go.Proofs.YtcdppfnjidlknaaGreatDoor
