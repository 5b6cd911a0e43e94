import Derived.Test.YtcdppfnjidlknaaGreatDoorHbg
set_option linter.unusedVariables false
set_option linter.unusedSimpArgs false
namespace Go.Proofs.YtcdppfnjidlknaaGreatDoor
open Go Go.Eng Go.Proofs Go.Wp
theorem qq4 {s:SiteT} {z z':List SeenT} {st st':Int} {fl fl':Bool} {l:List UInt8} (ok:SOk s) (h:qby s z st fl) (nf:qd1 s z st fl l) (b:qtE s z st fl l z' st' fl'):qby s z' st' fl':=by
  obtain⟨⟨bl,ba⟩,bf,G,hG,bs⟩:=b
  obtain⟨nl,nf⟩:=nf
  have g1:=hG.1
  have h1:=h.2.1
  have asp:∀ i:Nat,(i:Int)<s.groups.length→As z' i=La l i:=fun i hi=>by unfold As;rw[ba i hi];rfl
  refine⟨bl,?_,fun f i hi=>?_,fun f=>?_⟩
  · rw[bs];split
    · exact g1
    · split<;>omega
  · dsimp only;rw[asp i hi];exact bf.1 f i (by omega)
  · have na:¬ AllF l:=fun e=>by rw[bf.2 e] at f;cases f
    obtain⟨n1,n2,n3,n4,n5⟩:=nf.resolve_left na
    have r13:∀ i:Nat,(i:Int)<s.groups.length→1≤La l i∧La l i≤3:=by
      intro i hi
      cases hf:fl
      · exact(n3 hf i hi).2.1
      · have:=n2 (.inl hf) i (by omega);dsimp only at this;omega
    have mt:∀ a b:Nat,(a:Int)<s.groups.length→b<a→ap s a b=true→La l a=1∨La l b=1:=by
      intro a b ha hb p
      by_cases c:La l a=1
      · exact .inl c
      · by_cases d:La l b=1
        · exact .inr d
        · have:=n4 a (by omega) c b (by omega) d;rw[p] at this;cases this
    refine⟨fun i hi=>by dsimp only;rw[asp i hi];exact r13 i hi,fun t i hi=>?_,fun a ha b hb p=>?_⟩
    · dsimp only;rw[asp i hi]
      refine n2 ?_ i (by omega)
      rw[bs,if_neg (by rw[f];simp)] at t
      cases hf:fl
      · rw[if_neg (by rw[hf];simp)] at t;exact .inr (by omega)
      · exact .inl rfl
    · rw[asp a ha,asp b hb]
      have pk:=ok.apart.2 a ha b hb
      have ne:=(pk.2.1 p).1
      rcases Nat.lt_or_ge b a with c|c
      · exact mt a b ha c p
      · exact(mt b a hb (by omega) (pk.1▸p)).symm
def InOk (i:Inp):Prop:=i.bytesf.length≤1000000000∧(0≤i.eyesf∧i.eyesf<4294967296)∧i.backf.length≤1000000000
def lnk (x:LocT):Bool×Int×Int×List UInt8:=(x.any,x.last,x.lage,x.rest)
structure Went (s:SiteT) (x:LocT) (i:Inp) (y:LocT) (l:List UInt8):Prop where
  nf:qd1 s x.seen x.start x.flashed l
  now:qtE s x.seen x.start x.flashed l y.seen y.start y.flashed
  flash:AllF l↔y.mode=0
  rung:∃ f1 f2 f3 f4,Rung s x.mode x.well x.latched f1 f2 f3 f4 y.mode y.well y.latched∧(f1=true→y.age<s.watch)∧(f4=false↔s.feed≤y.wrong)
  age:∃ b h,qeH s x i [] [] [] [] []=some (b,h)∧y.age=(if b=true then 0 else min (x.age+1) 1048576)∧lnk y=lnk h.2.1
  wrong:∃ w,(w.length=s.groups.length∧FA (fun k=>La w k=As x.seen k) s.groups.length)∧(i.backf≠[]∧i.backf≠w→y.wrong=min (x.wrong+1) 1048576)∧(¬ (i.backf≠[]∧i.backf≠w)→y.wrong=0)
structure Lost (s:SiteT) (x:LocT) (y:LocT) (l:List UInt8):Prop where
  all:l=List.replicate s.groups.length (UInt8.ofNat 4)
  now:qtE s x.seen x.start x.flashed l y.seen y.start y.flashed
  mode:y.mode=1∨y.mode=2
  well:y.well=0
  lat:y.latched=false
  wrong:y.wrong=0
  age:y.age=1048576
  link:lnk y=(false,0,0,[])
  sent:y.tick=min (x.tick+1) 1073741824∧y.sent=x.sent
structure Kp (x y:LocT):Prop where
  seen:y.seen=x.seen
  start:y.start=x.start
  fl:y.flashed=x.flashed
  mode:y.mode=x.mode
  well:y.well=x.well
  lat:y.latched=x.latched
section
variable {t : SiteT} {t2 : LocT} {t3 : Inp} {t4 : List Put} {t5 : List Pls} {t6 : List UInt8} {t7 : List UInt8} {t8 : List UInt8}
theorem hear2 (p0:SG t) (p1:LOk t t2) (p2:t3.bytesf.length≤1000000000):W (qeH t t2 t3 t4 t5 t6 t7 t8) (fun r=>(∃ y,(t,y,t3,t4,t5,t6,t7,t8)=r.2∧LOk t y∧Kp t2 y∧(y.wrong=t2.wrong∧y.tick=t2.tick∧y.sent=t2.sent)∧y.age=if r.1=true then 0 else min (t2.age+1) 1048576)∧qeH t t2 t3 t4 t5 t6 t7 t8=some r):=by
  refine(ql6 (qtB p0 p1 p2)).mono ?_
  rintro⟨b,r⟩⟨⟨an,la,lg,re,cy,og,sp,e,h1,h2,h3,h4⟩,e2⟩
  refine⟨⟨_,e.symm,{p1 with link:=h3,rest:=h1,told:=h2,age:=?_},⟨rfl,rfl,rfl,rfl,rfl,rfl⟩,⟨rfl,rfl,rfl⟩,rfl⟩,e2⟩
  have:=p1.age
  dsimp only
  split<;>omega
theorem see2 (p0:SG t) (p1:LOk t t2) (p2:0≤t3.eyesf∧t3.eyesf<4294967296):W (qqt t t2 t3 t4 t5 t6 t7 t8) (fun r=>∃ y wa,(t,y,t3,t4,wa,t6,t7,t8)=r∧LOk t y∧Kp t2 y∧(y.wrong=t2.wrong∧y.tick=t2.tick∧y.sent=t2.sent∧lnk y=lnk t2)∧y.age=t2.age∧wa.length=t.eyes.length):=by
  refine(q76 p0 p1 p2).mono ?_
  rintro r ⟨pu,ey,ga,ca,wa,e,h1,h2,h3,h4⟩
  exact⟨_,wa,e.symm,{p1 with pulses:=h1,gaps:=h2,eyes:=h4},⟨rfl,rfl,rfl,rfl,rfl,rfl⟩,⟨rfl,rfl,rfl,rfl⟩,rfl,h3⟩
theorem facts2 (p0:SG t) (p1:LOk t t2) (p2:t3.backf.length≤1000000000):W (qfE t t2 t3 t4 t5 t6 t7 t8) (fun r=>∃ y f1 f2 f3 f4 k1 k2 k3 w,(t,y,t3,t4,t5,t6,t7,t8,f1,f2,f3,f4,k1,k2,k3)=r∧LOk t y∧Kp t2 y∧(y.age=t2.age∧y.tick=t2.tick∧y.sent=t2.sent∧lnk y=lnk t2)∧(w.length=t.groups.length∧FA (fun i=>La w i=As t2.seen i) t.groups.length)∧(t3.backf≠[]∧t3.backf≠w→y.wrong=min (t2.wrong+1) 1048576)∧(¬ (t3.backf≠[]∧t3.backf≠w)→y.wrong=0)∧(f1=true→y.age<t.watch)∧(f2=true→0<k3.length)∧(f4=false↔t.feed≤y.wrong)∧(k3.length≤8∧∀ p∈k3,PlB p)):=by
  refine(q1G p0 p1 p2).mono ?_
  rintro r ⟨wr,f1,f2,f3,f4,k1,k2,k3,w,e,h1,h2,h3,h4,h5,h6,h7⟩
  refine⟨_,f1,f2,f3,f4,k1,k2,k3,w,e.symm,{p1 with wrong:=?_},⟨rfl,rfl,rfl,rfl,rfl,rfl⟩,⟨rfl,rfl,rfl,rfl⟩,h1,h2,h3,h4,h5,h6,h7⟩
  have:=p1.wrong
  dsimp only
  by_cases c:t3.backf≠[]∧t3.backf≠w
  · rw[h2 c];omega
  · rw[h3 c];omega
theorem ask2 {k:Int} {k2:Int} {k3:List Plan} (p0:SG t) (p1:LOk t t2) (p2:t2.mode=2→0<k3.length) (p3:∀ p∈k3,p.splits.length≤8):W (qqu t t2 t3 t4 t5 t6 t7 t8 k k2 k3) (fun r=>∃ y asks,(t,y,t3,t4,t5,asks,t7,t8)=r∧LOk t y∧Kp t2 y∧(y.wrong=t2.wrong∧y.tick=t2.tick∧y.sent=t2.sent∧lnk y=lnk t2)∧y.age=t2.age∧asks.length=t.groups.length∧(AllF asks↔y.mode=0)):=by
  have q:=p0.ok.shape.1
  refine(q75 p0 p1 p2 p3).mono ?_
  rintro r ⟨ph,si,asks,e,h1,h2,h3,h4⟩
  refine⟨_,asks,e.symm,{p1 with seq:=h1},⟨rfl,rfl,rfl,rfl,rfl,rfl⟩,⟨rfl,rfl,rfl,rfl⟩,rfl,h2,fun a=>?_,h3⟩
  dsimp only
  by_cases c:t2.mode=0
  · exact c
  · have a0:=a 0 (by omega)
    have b0:=h4 c 0 (by omega)
    dsimp only at a0 b0;omega
theorem lose2 (p0:SG t) (p1:LOk t t2) (p2:t4.length≤1000∧∀ p∈t4,p.data.length=64):W (qjI t t2 t3 t4 t5 t6 t7 t8) (fun r=>∃ y,(t,y,t3,t4,t5,t6,List.replicate t.groups.length (UInt8.ofNat 4),t8)=r∧LOk t y∧Lost t t2 y (List.replicate t.groups.length (UInt8.ofNat 4))):=by
  refine(q5g p0 p1 p2).mono ?_
  rintro r ⟨x,z,st,fl,e,n,b⟩
  have nf:qd1 t t2.seen t2.start t2.flashed (List.replicate t.groups.length (UInt8.ofNat 4)):=⟨by simp,.inl fun k hk=>rep4 (by simpa using hk)⟩
  refine⟨_,e.symm,{n.ok with now:=qq4 p0.ok p1.now nf b,tick:=?_,sent:=p1.sent},⟨rfl,b,n.mode,n.well,n.lat,n.wrong,n.age,by obtain⟨a1,a2,a3,a4⟩:=n.link;unfold lnk;dsimp only;rw[a1,a2,a3,a4],rfl,rfl⟩⟩
  have:=p1.tick
  dsimp only;omega
end
structure Ran (s:SiteT) (x:LocT) (i:Inp) (y:LocT) (l:List UInt8):Prop where
  ok:LOk s y
  went:i.lostf=false→Went s x i y l
  lost:i.lostf=true→Lost s x y l
theorem q3T {s:SiteT} {x y:LocT} {i:Inp} {l:List UInt8} (c:¬ i.lostf=true) (ok:LOk s y) (w:Went s x i y l):Ran s x i y l:=⟨ok,fun _=>w,fun h=>absurd h c⟩
theorem q3U {s:SiteT} {x y:LocT} {i:Inp} {l:List UInt8} (c:i.lostf=true) (ok:LOk s y) (w:Lost s x y l):Ran s x i y l:=⟨ok,fun h=>(by rw[c] at h;cases h),fun _=>w⟩
theorem qzt {t:SiteT} {t2:LocT} {t3:Inp} {t4:List Put} {t5:List Pls} {t6:List UInt8} {t7:List UInt8} {t8:List UInt8} (p0:SG t) (p1:LOk t t2) (p2:InOk t3) (p3:t4=[]) (p4:t5=[]) (p5:t6=[]) (p6:t7=[]) (p7:t8=[]):W (qqv t t2 t3 t4 t5 t6 t7 t8) (fun r=>r.1=t∧Ran t t2 t3 r.2.1 r.2.2.2.2.2.2.1):=by
 unfold qqv qvR
 subst p3 p4 p5 p6 p7
 refine qab (hear2 p0 p1 p2.1) ?_
 rintro⟨b1,x2,x3,x4,z5,z6,z7,z8,z9⟩ hb1
 try dsimp only at hb1
 obtain⟨⟨y1,e,ok1,kp1,wtt1,age1⟩,hh⟩:=hb1
 simp only[Prod.mk.injEq] at e
 obtain⟨rfl,rfl,rfl,rfl,rfl,rfl,rfl,rfl⟩:=e
 refine W_if (fun c1=>?_) fun c1=>?_
 ·refine qab (q1F p0 ok1) ?_
  rintro⟨x131,x132,x133,z134,z135,z136,z137,z138⟩ hx131
  try dsimp only at hx131
  obtain⟨e,pt⟩:=hx131
  simp only[Prod.mk.injEq] at e
  obtain⟨rfl,rfl,rfl,rfl,rfl,rfl,rfl⟩:=e
  have pt2:z134.length≤1000∧∀ p∈z134,p.data.length=64:=by
   rcases pt with h|h
   · rw[← h];exact⟨by simp,fun p hp=>by simp at hp⟩
   · exact⟨by omega,h.2⟩
  refine W_if (fun c2=>?_) fun c2=>?_
  ·refine qab (lose2 p0 ok1 (pt2)) ?_
   rintro⟨x252,x253,x254,z255,z256,z257,z258,z259⟩ hx252
   try dsimp only at hx252
   obtain⟨y2,e,ok2,lo⟩:=hx252
   simp only[Prod.mk.injEq] at e
   obtain⟨rfl,rfl,rfl,rfl,rfl,rfl,rfl,rfl⟩:=e
   refine qaa ?_
   refine⟨rfl,q3U (by assumption) ok2 ⟨lo.all,?_,lo.mode,lo.well,lo.lat,lo.wrong,lo.age,lo.link,?_⟩⟩
   · have:=lo.now;rw[kp1.seen,kp1.start,kp1.fl] at this;exact this
   · have:=lo.sent;rw[wtt1.2.1,wtt1.2.2] at this;exact this
  ·refine qab (qjY (d:=y1.disk) ok1.disk (pt2) (by omega)) ?_
   rintro⟨z139,n140⟩ hz139
   try dsimp only at hz139
   have ok2:LOk t {y1 with disk:=z139}:={ok1 with disk:=hz139}
   refine qab (see2 p0 ok2 p2.2.1) ?_
   rintro⟨x141,x142,x143,z144,z145,z146,z147,z148⟩ hx141
   try dsimp only at hx141
   obtain⟨y3,wa,e,ok3,kp3,wtt3,age3,lw⟩:=hx141
   simp only[Prod.mk.injEq] at e
   obtain⟨rfl,rfl,rfl,rfl,rfl,rfl,rfl,rfl⟩:=e
   refine qab (facts2 p0 ok3 p2.2.2) ?_
   rintro⟨x149,x150,x151,z152,z153,z154,z155,z156,b157,b158,b159,b160,n161,n162,z163⟩ hx149
   try dsimp only at hx149
   obtain⟨y4,f1,f2,f3,f4,k1,k2,k3,w,e,ok4,kp4,wtt4,hw,hw1,hw2,hf1,hf2,hf4,hk⟩:=hx149
   simp only[Prod.mk.injEq] at e
   obtain⟨rfl,rfl,rfl,rfl,rfl,rfl,rfl,rfl,rfl,rfl,rfl,rfl,rfl,rfl,rfl⟩:=e
   refine qab (qm2 p0 ok4.rung (fun h=>(ok4.lat.1 h)) ok4.lat.2) ?_
   rintro⟨n164,n165,n166,b167⟩ hn164
   try dsimp only at hn164
   obtain⟨-,rg⟩:=hn164
   have rg2:=rg
   obtain⟨r1,r2,r3,r4,r5,r6,r7,r8,r9⟩:=rg2
   have ok5:LOk t {y4 with mode:=n165,well:=n166,latched:=b167}:={ok4 with rung:=r4,lat:=⟨r2,r3⟩}
   refine qab (ask2 p0 ok5 (fun h=>hf2 (r6 (by dsimp only at h;omega))) (fun p hp=>(hk.2 p hp).1)) ?_
   rintro⟨x168,x169,x170,z171,z172,z173,z174,z175⟩ hx168
   try dsimp only at hx168
   obtain⟨y6,asks,e,ok6,kp6,wtt6,age6,la6,fl6⟩:=hx168
   simp only[Prod.mk.injEq] at e
   obtain⟨rfl,rfl,rfl,rfl,rfl,rfl,rfl,rfl⟩:=e
   refine qab (qq9 p0 ok6.now la6) ?_
   rintro⟨z176,n177⟩ hz176
   try dsimp only at hz176
   obtain⟨-,nf,af⟩:=hz176
   refine qab (qdP p0 ok6.now (by have:=nf.1;have:=p0.ok.shape.1;omega)) ?_
   rintro⟨n178,n179,z180,n181,b182⟩ hn178
   try dsimp only at hn178
   have bh:=hn178.2.2.1 (hn178.2.1.2 nf)
   try dsimp only at bh
   have ok7:LOk t {y6 with seen:=z180,start:=n181,flashed:=b182}:={ok6 with now:=qq4 p0.ok ok6.now nf bh}
   refine qab (qq3 p0 ok7 lw) ?_
   rintro⟨x183,z184,z185,n186,b187,n188,n189,b190,n191,n192,b193,n194,n195,z196,n197,n198,z199,n200,z201,z202,z203,n204,n205,n206,n207,x208,z209,z210,z211,z212,z213,z214,z215,z216⟩ hx183
   try dsimp only at hx183
   obtain⟨gr,bu,ca,e,cg,cb,cc⟩:=hx183
   replace e:=e.symm
   simp only[Prod.mk.injEq] at e
   obtain⟨rfl,rfl,rfl,rfl,rfl,rfl,rfl,rfl,rfl,rfl,rfl,rfl,rfl,rfl,rfl,rfl,rfl,rfl,rfl,rfl,rfl,rfl,rfl,rfl,rfl,rfl,rfl,rfl,rfl,rfl,rfl,rfl,rfl,rfl⟩:=e
   refine W_rs (by first|rfl|omega|(simp<;>omega)) ?_
   refine W_rs (by first|rfl|omega|(simp<;>omega)) ?_
   refine W_rs (by first|rfl|omega|(simp<;>omega)) ?_
   refine qab (qtC p0 cg cb cc ok6.sent ok6.tick ok6.rung.1.1) ?_
   rintro⟨x217,z218,z219,n220,b221,n222,n223,b224,n225,n226,b227,n228,n229,z230,n231,n232,z233,n234,z235,z236,z237,n238,n239,n240,n241,x242,z243,z244,z245,z246,z247,z248,z249,z250⟩ hx217
   try dsimp only at hx217
   obtain⟨se,ou,gr2,bu2,ca2,e,hse,cg2,cb2,cc2⟩:=hx217
   replace e:=e.symm
   simp only[Prod.mk.injEq] at e
   obtain⟨rfl,rfl,rfl,rfl,rfl,rfl,rfl,rfl,rfl,rfl,rfl,rfl,rfl,rfl,rfl,rfl,rfl,rfl,rfl,rfl,rfl,rfl,rfl,rfl,rfl,rfl,rfl,rfl,rfl,rfl,rfl,rfl,rfl,rfl⟩:=e
   refine qab (qa5 ok6.tick (by have:=ok6.tick;omega)) ?_
   rintro n251 hn251
   refine qaa ?_
   refine⟨rfl,q3T (by assumption) {ok7 with tick:=?_,sent:=hse,greens:=?_,busy:=?_,came:=?_} ?_⟩
   · dsimp only;rw[List.take_length];exact cg2
   · dsimp only;rw[List.take_length];exact cb2
   · dsimp only;rw[List.take_length];exact cc2
   · have:=ok6.tick;dsimp only;omega
   have g3:=kp3.seen;have g4:=kp4.seen;have g6:=kp6.seen
   try dsimp only at g3 g6
   have s3:=kp3.start;have s4:=kp4.start;have s6:=kp6.start
   try dsimp only at s3 s6
   have f3':=kp3.fl;have f4':=kp4.fl;have f6':=kp6.fl
   try dsimp only at f3' f6'
   have es:y6.seen=t2.seen:=by rw[g6,g4,g3,kp1.seen]
   have et:y6.start=t2.start:=by rw[s6,s4,s3,kp1.start]
   have ef:y6.flashed=t2.flashed:=by rw[f6',f4',f3',kp1.fl]
   have es3:y3.seen=t2.seen:=by rw[g3,kp1.seen]
   have em:y4.mode=t2.mode:=by rw[kp4.mode,kp3.mode];exact kp1.mode
   have ew:y4.well=t2.well:=by rw[kp4.well,kp3.well];exact kp1.well
   have el:y4.latched=t2.latched:=by rw[kp4.lat,kp3.lat];exact kp1.lat
   have em6:y6.mode=n165:=kp6.mode
   have ew6:y6.well=n166:=kp6.well
   have el6:y6.latched=b167:=kp6.lat
   have ea:y6.age=y1.age:=by rw[age6];(try dsimp only);rw[wtt4.1,age3]
   have ea4:y4.age=y6.age:=by rw[age6]
   have eg:y6.wrong=y4.wrong:=wtt6.1
   have eg3:y3.wrong=t2.wrong:=by rw[wtt3.1];exact wtt1.1
   refine⟨es▸et▸ef▸nf,es▸et▸ef▸bh,af.trans fl6,⟨f1,f2,f3,f4,?_,?_,?_⟩,⟨b1,_,hh,?_,wtt6.2.2.2.trans (wtt4.2.2.2.trans wtt3.2.2.2)⟩,⟨w,⟨hw.1,es3▸hw.2⟩,?_,?_⟩⟩
   · dsimp only;rw[em6,ew6,el6,← em,← ew,← el];exact rg
   · dsimp only;rw[← ea4];exact hf1
   · dsimp only;rw[eg];exact hf4
   · dsimp only;rw[ea];exact age1
   · dsimp only;rw[eg,← eg3];exact hw1
   · dsimp only;rw[eg];exact hw2
 ·refine W_if (fun c6=>?_) fun c6=>?_
  ·refine qab (lose2 p0 ok1 (⟨by simp,fun p hp=>by simp at hp⟩)) ?_
   rintro⟨x123,x124,x125,z126,z127,z128,z129,z130⟩ hx123
   try dsimp only at hx123
   obtain⟨y2,e,ok2,lo⟩:=hx123
   simp only[Prod.mk.injEq] at e
   obtain⟨rfl,rfl,rfl,rfl,rfl,rfl,rfl,rfl⟩:=e
   refine qaa ?_
   refine⟨rfl,q3U (by assumption) ok2 ⟨lo.all,?_,lo.mode,lo.well,lo.lat,lo.wrong,lo.age,lo.link,?_⟩⟩
   · have:=lo.now;rw[kp1.seen,kp1.start,kp1.fl] at this;exact this
   · have:=lo.sent;rw[wtt1.2.1,wtt1.2.2] at this;exact this
  ·refine qab (qjY (d:=y1.disk) ok1.disk (⟨by simp,fun p hp=>by simp at hp⟩) (by omega)) ?_
   rintro⟨z10,n11⟩ hz10
   try dsimp only at hz10
   have ok2:LOk t {y1 with disk:=z10}:={ok1 with disk:=hz10}
   refine qab (see2 p0 ok2 p2.2.1) ?_
   rintro⟨x12,x13,x14,z15,z16,z17,z18,z19⟩ hx12
   try dsimp only at hx12
   obtain⟨y3,wa,e,ok3,kp3,wtt3,age3,lw⟩:=hx12
   simp only[Prod.mk.injEq] at e
   obtain⟨rfl,rfl,rfl,rfl,rfl,rfl,rfl,rfl⟩:=e
   refine qab (facts2 p0 ok3 p2.2.2) ?_
   rintro⟨x20,x21,x22,z23,z24,z25,z26,z27,b28,b29,b30,b31,n32,n33,z34⟩ hx20
   try dsimp only at hx20
   obtain⟨y4,f1,f2,f3,f4,k1,k2,k3,w,e,ok4,kp4,wtt4,hw,hw1,hw2,hf1,hf2,hf4,hk⟩:=hx20
   simp only[Prod.mk.injEq] at e
   obtain⟨rfl,rfl,rfl,rfl,rfl,rfl,rfl,rfl,rfl,rfl,rfl,rfl,rfl,rfl,rfl⟩:=e
   refine qab (qm2 p0 ok4.rung (fun h=>(ok4.lat.1 h)) ok4.lat.2) ?_
   rintro⟨n35,n36,n37,b38⟩ hn35
   try dsimp only at hn35
   obtain⟨-,rg⟩:=hn35
   have rg2:=rg
   obtain⟨r1,r2,r3,r4,r5,r6,r7,r8,r9⟩:=rg2
   have ok5:LOk t {y4 with mode:=n36,well:=n37,latched:=b38}:={ok4 with rung:=r4,lat:=⟨r2,r3⟩}
   refine qab (ask2 p0 ok5 (fun h=>hf2 (r6 (by dsimp only at h;omega))) (fun p hp=>(hk.2 p hp).1)) ?_
   rintro⟨x39,x40,x41,z42,z43,z44,z45,z46⟩ hx39
   try dsimp only at hx39
   obtain⟨y6,asks,e,ok6,kp6,wtt6,age6,la6,fl6⟩:=hx39
   simp only[Prod.mk.injEq] at e
   obtain⟨rfl,rfl,rfl,rfl,rfl,rfl,rfl,rfl⟩:=e
   refine qab (qq9 p0 ok6.now la6) ?_
   rintro⟨z47,n48⟩ hz47
   try dsimp only at hz47
   obtain⟨-,nf,af⟩:=hz47
   refine qab (qdP p0 ok6.now (by have:=nf.1;have:=p0.ok.shape.1;omega)) ?_
   rintro⟨n49,n50,z51,n52,b53⟩ hn49
   try dsimp only at hn49
   have bh:=hn49.2.2.1 (hn49.2.1.2 nf)
   try dsimp only at bh
   have ok7:LOk t {y6 with seen:=z51,start:=n52,flashed:=b53}:={ok6 with now:=qq4 p0.ok ok6.now nf bh}
   refine qab (qq3 p0 ok7 lw) ?_
   rintro⟨x54,z55,z56,n57,b58,n59,n60,b61,n62,n63,b64,n65,n66,z67,n68,n69,z70,n71,z72,z73,z74,n75,n76,n77,n78,x79,z80,z81,z82,z83,z84,z85,z86,z87⟩ hx54
   try dsimp only at hx54
   obtain⟨gr,bu,ca,e,cg,cb,cc⟩:=hx54
   replace e:=e.symm
   simp only[Prod.mk.injEq] at e
   obtain⟨rfl,rfl,rfl,rfl,rfl,rfl,rfl,rfl,rfl,rfl,rfl,rfl,rfl,rfl,rfl,rfl,rfl,rfl,rfl,rfl,rfl,rfl,rfl,rfl,rfl,rfl,rfl,rfl,rfl,rfl,rfl,rfl,rfl,rfl⟩:=e
   refine W_rs (by first|rfl|omega|(simp<;>omega)) ?_
   refine W_rs (by first|rfl|omega|(simp<;>omega)) ?_
   refine W_rs (by first|rfl|omega|(simp<;>omega)) ?_
   refine qab (qtC p0 cg cb cc ok6.sent ok6.tick ok6.rung.1.1) ?_
   rintro⟨x88,z89,z90,n91,b92,n93,n94,b95,n96,n97,b98,n99,n100,z101,n102,n103,z104,n105,z106,z107,z108,n109,n110,n111,n112,x113,z114,z115,z116,z117,z118,z119,z120,z121⟩ hx88
   try dsimp only at hx88
   obtain⟨se,ou,gr2,bu2,ca2,e,hse,cg2,cb2,cc2⟩:=hx88
   replace e:=e.symm
   simp only[Prod.mk.injEq] at e
   obtain⟨rfl,rfl,rfl,rfl,rfl,rfl,rfl,rfl,rfl,rfl,rfl,rfl,rfl,rfl,rfl,rfl,rfl,rfl,rfl,rfl,rfl,rfl,rfl,rfl,rfl,rfl,rfl,rfl,rfl,rfl,rfl,rfl,rfl,rfl⟩:=e
   refine qab (qa5 ok6.tick (by have:=ok6.tick;omega)) ?_
   rintro n122 hn122
   refine qaa ?_
   refine⟨rfl,q3T (by assumption) {ok7 with tick:=?_,sent:=hse,greens:=?_,busy:=?_,came:=?_} ?_⟩
   · dsimp only;rw[List.take_length];exact cg2
   · dsimp only;rw[List.take_length];exact cb2
   · dsimp only;rw[List.take_length];exact cc2
   · have:=ok6.tick;dsimp only;omega
   have g3:=kp3.seen;have g4:=kp4.seen;have g6:=kp6.seen
   try dsimp only at g3 g6
   have s3:=kp3.start;have s4:=kp4.start;have s6:=kp6.start
   try dsimp only at s3 s6
   have f3':=kp3.fl;have f4':=kp4.fl;have f6':=kp6.fl
   try dsimp only at f3' f6'
   have es:y6.seen=t2.seen:=by rw[g6,g4,g3,kp1.seen]
   have et:y6.start=t2.start:=by rw[s6,s4,s3,kp1.start]
   have ef:y6.flashed=t2.flashed:=by rw[f6',f4',f3',kp1.fl]
   have es3:y3.seen=t2.seen:=by rw[g3,kp1.seen]
   have em:y4.mode=t2.mode:=by rw[kp4.mode,kp3.mode];exact kp1.mode
   have ew:y4.well=t2.well:=by rw[kp4.well,kp3.well];exact kp1.well
   have el:y4.latched=t2.latched:=by rw[kp4.lat,kp3.lat];exact kp1.lat
   have em6:y6.mode=n36:=kp6.mode
   have ew6:y6.well=n37:=kp6.well
   have el6:y6.latched=b38:=kp6.lat
   have ea:y6.age=y1.age:=by rw[age6];(try dsimp only);rw[wtt4.1,age3]
   have ea4:y4.age=y6.age:=by rw[age6]
   have eg:y6.wrong=y4.wrong:=wtt6.1
   have eg3:y3.wrong=t2.wrong:=by rw[wtt3.1];exact wtt1.1
   refine⟨es▸et▸ef▸nf,es▸et▸ef▸bh,af.trans fl6,⟨f1,f2,f3,f4,?_,?_,?_⟩,⟨b1,_,hh,?_,wtt6.2.2.2.trans (wtt4.2.2.2.trans wtt3.2.2.2)⟩,⟨w,⟨hw.1,es3▸hw.2⟩,?_,?_⟩⟩
   · dsimp only;rw[em6,ew6,el6,← em,← ew,← el];exact rg
   · dsimp only;rw[← ea4];exact hf1
   · dsimp only;rw[eg];exact hf4
   · dsimp only;rw[ea];exact age1
   · dsimp only;rw[eg,← eg3];exact hw1
   · dsimp only;rw[eg];exact hw2
end Go.Proofs.YtcdppfnjidlknaaGreatDoor
namespace Go.Proofs.YtcdppfnjidlknaaGreatDoor
open Go Go.Eng Go.Proofs Go.Wp
noncomputable section
def stp (s:SiteT) (x:LocT) (i:Inp):LocT×List UInt8:=match qqv s x i [] [] [] [] [] with
  |some r=>(r.2.1,r.2.2.2.2.2.2.1)
  |none=>(x,[])
def XS (s:SiteT) (x:LocT) (l:List Inp):Nat→LocT
  |0=>x
  |k+1=>(stp s (XS s x l k) (l.getD k (dflt 24))).1
def LS (s:SiteT) (x:LocT) (l:List Inp) (k:Nat):List UInt8:=(stp s (XS s x l k) (l.getD k (dflt 24))).2
def MS (s:SiteT) (x:LocT) (l:List Inp) (k:Nat):UInt8:=UInt8.ofNat (XS s x l (k+1)).mode.toNat
theorem q77 {s:SiteT} {x:LocT} {i:Inp} (sg:SG s) (ok:LOk s x) (h:InOk i):Ran s x i (stp s x i).1 (stp s x i).2:=by
  obtain⟨r,e,-,p⟩:=qzt sg ok h rfl rfl rfl rfl rfl
  unfold stp
  rw[e];exact p
theorem xs_ok {s:SiteT} {x:LocT} {l:List Inp} (sg:SG s) (ok:LOk s x) (h:∀ i∈l,InOk i):∀ k:Nat,k≤l.length→LOk s (XS s x l k)
  |0,_=>ok
  |k+1,hk=>(q77 sg (xs_ok sg ok h k (by omega)) (by rw[qbC (show k<l.length by omega)];exact h _ (List.getElem_mem _))).ok
theorem xs_ran {s:SiteT} {x:LocT} {l:List Inp} (sg:SG s) (ok:LOk s x) (h:∀ i∈l,InOk i) {k:Nat} (hk:k<l.length):Ran s (XS s x l k) (l.getD k (dflt 24)) (XS s x l (k+1)) (LS s x l k) :=
  q77 sg (xs_ok sg ok h k (by omega)) (by rw[qbC hk];exact h _ (List.getElem_mem _))
theorem xs_next {s:SiteT} {x0 x:LocT} {l:List Inp} {i:Inp} {n m:Int} {r:SiteT×LocT×Inp×List Put×List Pls×List UInt8×List UInt8×List UInt8} (h:x=XS s x0 l n.toNat) (hi:i=l.getD n.toNat (dflt 24)) (e:qqv s x i [] [] [] [] []=some r) (hn:0≤n) (hm:m=n+1) :
    r.2.1=XS s x0 l m.toNat∧(List.range m.toNat).map (LS s x0 l)=(List.range n.toNat).map (LS s x0 l)++[r.2.2.2.2.2.2.1]∧(List.range m.toNat).map (MS s x0 l)=(List.range n.toNat).map (MS s x0 l)++[UInt8.ofNat r.2.1.mode.toNat]:=by
  have em:m.toNat=n.toNat+1:=by omega
  have es:stp s x i=(r.2.1,r.2.2.2.2.2.2.1):=by unfold stp;rw[e]
  have e1:r.2.1=XS s x0 l (n.toNat+1):=by
    show r.2.1=(stp s (XS s x0 l n.toNat) (l.getD n.toNat (dflt 24))).1
    rw[← h,← hi,es]
  rw[em]
  refine⟨e1,?_,?_⟩
  · rw[List.range_succ,List.map_append,List.map_singleton]
    unfold LS
    rw[← h,← hi,es]
  · rw[List.range_succ,List.map_append,List.map_singleton]
    unfold MS
    rw[← e1]
structure Run (s:SiteT) (d:List UInt8) (l:List Inp) (r:List (List UInt8)×List UInt8×Int):Prop where
  sg:SG s
  new:∃ x0,qdM s d=some (0,x0)∧LNew s x0∧r=((List.range l.length).map (LS s x0 l),(List.range l.length).map (MS s x0 l),0)
theorem q5h {s:SiteT} {d:List UInt8} {l:List Inp} (p0:SSm s) (p1:SWf s) (p2:d.length≤1000000) (p3:l.length≤4000) (p4:∀ i∈l,InOk i):W (qjP s d l) (fun r=>(∃ n x0,n≠0∧qdM s d=some (n,x0)∧r=([],[],n))∨Run s d l r):=by
 unfold qjP qdO
 refine qab (ql6 (qzB p0 p1 p2)) ?_
 rintro⟨n1,x2⟩ hn1
 try dsimp only at hn1
 obtain⟨hn1,en1⟩:=hn1
 refine W_if (fun c1=>?_) fun c1=>?_
 ·refine qaa ?_
  exact .inl ⟨n1,x2,c1,en1,rfl⟩
 ·have e0:n1=0:=Classical.not_not.1 c1
  subst e0
  obtain⟨sg,new⟩:=hn1 rfl
  refine W_if (fun c2=>?_) fun c2=>?_
  ·refine qaa ?_
   exfalso;omega
  ·refine qaj (fun v=>∃ z4 z5 x7 n10,v=((z4,z5,()),((s,()),(x7,()),()),l,(l.length:Int),n10,())∧(0≤n10∧n10≤(l.length:Int))∧(LOk s x7)∧(x7=XS s x2 l n10.toNat)∧(z4=(List.range n10.toNat).map (LS s x2 l))∧(z5=(List.range n10.toNat).map (MS s x2 l))) (fun((z4,z5,_),((_,_),(x7,_),_),_,_,n10,_)=>((l.length:Int)-n10).toNat) ⟨_,_,_,_,rfl,by omega,new.ok,rfl,rfl,rfl⟩ (by simp only[NN];omega) ?_
   rintro r3 _ ⟨z4,z5,x7,n10,rfl,hr3_0,hr3_1,hr3_2,hr3_3,hr3_4⟩ ihr3
   refine W_if (fun c3=>?_) fun c3=>?_
   ·refine W_ix (by omega) fun x11 hx11=>?_
    refine qab (ql6 (qzt sg hr3_1 (by rw[hx11];exact qap p4 (by omega)) rfl rfl rfl rfl rfl)) ?_
    rintro⟨x12,x13,x14,z15,z16,z17,z18,z19⟩ hx12
    try dsimp only at hx12
    obtain⟨⟨es,rn⟩,e12⟩:=hx12
    subst x12
    have l4:z4.length=n10.toNat:=by rw[hr3_3];simp
    have l5:z5.length=n10.toNat:=by rw[hr3_4];simp
    have xn:=fun(m:Int)=>xs_next (m:=m) hr3_2 hx11 e12 (by omega)
    dsimp only at xn rn
    refine qaz (fun((z51,z52,_),((x53,_),(x54,_),_),z55,n56,n57,_)=>s=x53∧x13=x54∧l=z55∧(l.length:Int)=n56∧n10=n57∧(z51=z4++[z18]∧z52=z5++[UInt8.ofNat x13.mode.toNat])) (fun J20 hJ20=>?_) ?_
    ·refine W_sm ?_
     refine W_rm (by first|omega|(rw[List.length_drop];omega)|(simp<;>omega)) ?_
     refine qac fun z21 hz21=>?_
     have lz21:=congrArg List.length hz21;try simp at lz21
     refine W_rm (by first|omega|(rw[List.length_drop];omega)|(simp<;>omega)) ?_
     refine qac fun z22 hz22=>?_
     have lz22:=congrArg List.length hz22;try simp at lz22
     refine W_rs (by first|rfl|omega|(simp<;>omega)) ?_
     refine W_rs (by first|rfl|omega|(simp<;>omega)) ?_
     exact hJ20.use _ (by dsimp only;exact⟨rfl,rfl,rfl,rfl,rfl,by rw[List.take_length] at hz21;exact hz21,by rw[List.take_length] at hz22;exact hz22⟩)
    ·rintro⟨⟨z51,z52,_⟩,⟨⟨x53,_⟩,⟨x54,_⟩,_⟩,z55,n56,n57,_⟩ kJ20;dsimp only at kJ20
     obtain⟨rfl,rfl,rfl,rfl,rfl,kJ20⟩:=kJ20
     obtain⟨e51,e52⟩:=kJ20
     refine qah (by omega) fun n58 hn58=>?_
     refine W_rs (by first|rfl|omega|(simp<;>omega)) ?_
     refine W_rs (by first|rfl|omega|(simp<;>omega)) ?_
     exact ihr3.use _ ⟨_,_,_,_,rfl,by omega,rn.ok,(xn n58 hn58).1,by rw[(xn n58 hn58).2.1,e51,hr3_3],by rw[(xn n58 hn58).2.2,e52,hr3_4]⟩ (by dsimp only;omega)
   ·refine qaa ?_
    rw[List.take_length,List.take_length,hr3_3,hr3_4,show n10.toNat=l.length by omega];exact .inr ⟨sg,x2,en1,new,rfl⟩
end
end Go.Proofs.YtcdppfnjidlknaaGreatDoor
namespace Go.Proofs.YtcdppfnjidlknaaGreatDoor
open Go Go.Eng Go.Proofs Go.Wp
theorem alive_ok:q3Q=some true:=by kernel_rfl
def InT (i:Inp):Prop:=(0≤i.eyesf∧i.eyesf<4294967296)∧i.bytesf.length≤140737488355328∧i.backf.length≤140737488355328
def bb (i:Inp):Int:=(i.bytesf.length:Int)+(i.backf.length:Int)
def FitOk (s:SiteT) (d:List UInt8) (l:List Inp):Prop:=SSm s∧d.length≤5000∧l.length≤200∧∀ i∈l,bb i≤20000
theorem fit_in {s:SiteT} {d:List UInt8} {l:List Inp} (h:FitOk s d l) (t:∀ i∈l,InT i):∀ i∈l,InOk i:=by
  intro i hi
  have h1:=h.2.2.2 i hi
  have h2:=t i hi
  unfold bb at h1
  exact⟨by omega,h2.1,by omega⟩
theorem rng_len {α:Type} {n:Nat} {f:Nat→α}:((List.range n).map f).length=n:=by simp
theorem rng_get {α:Type} {n k:Nat} {f:Nat→α} {d:α} (h:k<n):((List.range n).map f).getD k d=f k:=by
  rw[qbC (by simpa using h)];simp
theorem mode_get {s:SiteT} {x:LocT} {l:List Inp} {k:Nat} (h:LOk s (XS s x l (k+1))) (hk:k<l.length):((((List.range l.length).map (MS s x l)).getD k (0:UInt8)).toNat:Int)=(XS s x l (k+1)).mode:=by
  rw[rng_get hk]
  have:=h.rung.1
  unfold MS
  rw[UInt8.toNat_ofNat'];omega
theorem q78 {s:SiteT}:W (q0B s) (fun r=>r=false→SSm s):=by
 unfold q0B qvb
 refine W_if (fun c1=>?_) fun c1=>?_
 ·refine qaa ?_
  simp
 ·refine qaj (fun v=>∃ n3,v=((),((s,()),()),n3,())∧(0≤n3∧n3≤s.between.length)∧(Upto (fun z:List Int=>z.length≤40) s.between (dflt 7) n3)) (fun(_,((_,_),_),n3,_)=>(s.between.length-n3).toNat) ⟨_,rfl,by omega,Upto.zero⟩ (by simp only[NN];omega) ?_
  rintro r1 _ ⟨n3,rfl,hr1_0,hr1_1⟩ ihr1
  refine W_if (fun c2=>?_) fun c2=>?_
  ·refine W_ix (by omega) fun z9 hz9=>?_
   refine W_if (fun c3=>?_) fun c3=>?_
   ·refine qaa ?_
    simp
   ·refine qah (by omega) fun n10 hn10=>?_
    exact ihr1.use _ ⟨_,rfl,by omega,hr1_1.succ (by omega) hn10 (by rw[← hz9];omega)⟩ (by dsimp only;omega)
  ·refine qaj (fun v=>∃ n6,v=((),((s,()),()),n6,())∧(0≤n6∧n6≤s.plans.length)∧(Upto (fun p:Plan=>p.splits.length≤40) s.plans (dflt 10) n6)) (fun(_,((_,_),_),n6,_)=>(s.plans.length-n6).toNat) ⟨_,rfl,by omega,Upto.zero⟩ (by simp only[NN];omega) ?_
   rintro r4 _ ⟨n6,rfl,hr4_0,hr4_1⟩ ihr4
   refine W_if (fun c4=>?_) fun c4=>?_
   ·refine W_ix (by omega) fun x7 hx7=>?_
    refine W_if (fun c5=>?_) fun c5=>?_
    ·refine qaa ?_
     simp
    ·refine qah (by omega) fun n8 hn8=>?_
     exact ihr4.use _ ⟨_,rfl,by omega,hr4_1.succ (by omega) hn8 (by rw[← hx7];omega)⟩ (by dsimp only;omega)
   ·refine qaa ?_
    exact fun _=>⟨by omega,hr1_1.all (by omega),hr4_1.all (by omega)⟩
theorem q79 {l:List Inp} (p0:l.length≤200) (p1:∀ i∈l,InT i):W (q0C l) (fun r=>∀ i∈l,bb i≤r):=by
 unfold q0C qvc
 refine qaj (fun v=>∃ n3 n4,v=((),(),l,n3,n4,())∧(0≤n4∧n4≤l.length)∧(0≤n3∧n3≤281474976710656*n4+200)∧(FA (fun k=>bb (l.getD k (dflt 24))≤n3) n4)) (fun(_,_,_,n3,n4,_)=>(l.length-n4).toNat) ⟨_,_,rfl,by omega,by omega,FA.zero⟩ (by simp only[NN];omega) ?_
 rintro r1 _ ⟨n3,n4,rfl,hr1_0,hr1_1,hr1_2⟩ ihr1
 refine W_if (fun c1=>?_) fun c1=>?_
 ·refine W_ix (by omega) fun x5 hx5=>?_
  have g5:=qap (d:=dflt 24) (n:=n4) p1 (by omega)
  rw[← hx5] at g5
  obtain⟨g5,g6,g7⟩:=g5
  refine W_ix (by omega) fun x6 hx6=>?_
  have e6:x6=x5:=by rw[hx6,hx5]
  subst e6
  refine W_wi (by omega) fun n7 hn7=>?_
  have e7:n7=bb x6:=by rw[hn7];rfl
  refine W_wi (by omega) fun n8 hn8=>?_
  refine qah (by omega) fun n9 hn9=>?_
  exact ihr1.use _ ⟨_,_,rfl,by omega,by omega,FA.succ (fun k h=>Int.le_trans (hr1_2 k h) (by omega)) (by omega) hn9 (by rw[← hx5];omega)⟩ (by dsimp only;omega)
 ·refine qaa ?_
  intro i hi
  obtain⟨k,hk,e⟩:=List.getElem_of_mem hi
  have:=hr1_2 k (by omega)
  dsimp only at this
  rw[qbC hk,e] at this;exact this
theorem q7A {s:SiteT} {d:List UInt8} {l:List Inp} (p0:∀ i∈l,InT i):W (q0T s d l) (fun r=>r=true→FitOk s d l):=by
 unfold q0T qvr
 refine qab (q78) ?_
 rintro b1 hb1
 refine W_if (fun c1=>?_) fun c1=>?_
 ·refine qab (q79 (by omega) p0) ?_
  rintro n2 hn2
  refine qaa ?_
  intro h;simp only[decide_eq_true_eq] at h
  exact⟨hb1 (by cases b1<;>simp_all),by omega,by omega,fun i hi=>Int.le_trans (hn2 i hi) h⟩
 ·refine qaa ?_
  simp
end Go.Proofs.YtcdppfnjidlknaaGreatDoor
namespace Go.Proofs.YtcdppfnjidlknaaGreatDoor
open Go Go.Eng Go.Proofs Go.Wp
theorem pcL_w {u:List UInt8} (h:u.length≤1000000):pcL u=[]∨∃ m:Msg,pcL u=[m]∧9≤u.length∧∀ o,qfM u=some (false,o)→m.kind=o.getD 0 0∧m.body=(o.take (o.length-4)).drop 5:=by
  obtain⟨⟨a,k,n,b⟩,e,-,h1,h2⟩:=qm0 h
  unfold pcL
  rw[e]
  cases a
  · exact .inl rfl
  · refine .inr ⟨_,rfl,h1 rfl,fun o ho=>?_⟩
    obtain⟨g1,g2⟩:=h2 o ho rfl
    exact⟨by dsimp only at g1 ⊢;rw[g1,Int.toNat_natCast,UInt8.ofNat_toNat],g2⟩
theorem emit0 (g:Bool):emit (g,false,[]) 126=[]:=by
  unfold emit
  split
  · rcases pcL_w (u:=[]) (by simp) with h|⟨m,-,h,-⟩
    · exact h
    · simp at h
  · rfl
theorem qzu:∀ (b u:List UInt8),(∀ x,x∈b→x≠126)→u.length+b.length≤1043→ql1 (true,false,u) b=(true,false,u++b)∧msgs (true,false,u) b=[]
  | [],u,_,_=>by simp[ql1,msgs]
  |x::b,u,h,hl=>by
    have hx:x≠126:=h x (List.mem_cons_self ..)
    simp only[List.length_cons] at hl
    have e:rst (true,false,u) x=(true,false,u++[x]):=by
      unfold rst
      rw[if_neg hx,if_neg (by show ¬ 1043≤u.length;omega),if_pos rfl]
    have g:emit (true,false,u) x=[]:=by unfold emit;rw[if_neg (fun c=>hx c.1)]
    obtain⟨r1,r2⟩:=qzu b (u++[x]) (fun y hy=>h y (List.mem_cons_of_mem _ hy)) (by simp only[List.length_append,List.length_cons,List.length_nil];omega)
    refine⟨?_,?_⟩
    · show ql1 (rst (true,false,u) x) b=_
      rw[e,r1,List.append_assoc];rfl
    · rw[msgs,g,e,r2];rfl
theorem qzv {c:List UInt8} (h:c.length≤521) (g:Bool):ql1 (g,false,[]) (126::(stf c++[126]))=(true,false,[])∧msgs (g,false,[]) (126::(stf c++[126]))=pcL (stf c):=by
  have L:=qq0 c
  obtain⟨r1,r2⟩:=qzu (stf c) [] (stf_no _) (by simp only[List.length_nil];omega)
  have e:rst (g,false,[]) 126=(true,false,[]):=rfl
  refine⟨?_,?_⟩
  · show ql1 (rst (g,false,[]) 126) _=_
    rw[e,qq1,r1];rfl
  · rw[msgs,emit0,e,qn3,r1,r2]
    show []++([]++(emit (true,false,[]++stf c) 126++[]))=_
    unfold emit
    rw[if_pos ⟨rfl,rfl,rfl⟩]
    simp
def Gd (l:List Msg) (b:List UInt8):Prop:=b.length≤6100∧(b=[]∨b.getD (b.length-1) 0=126)∧(∀ g,(ql1 (g,false,[]) b).2=(false,[])∧msgs (g,false,[]) b=msgs (true,false,[]) b)∧∀ x∈msgs (true,false,[]) b,∃ y∈l,x.kind=y.kind∧x.body=y.body
theorem gd_nil (l:List Msg):Gd l []:=⟨by simp,.inl rfl,fun g=>⟨rfl,rfl⟩,fun x hx=>by simp[msgs] at hx⟩
theorem Gd.go {l:List Msg} {b f z:List UInt8} {n k:Int} {x:Msg} {k0:UInt8} (h:Gd (l.take n.toNat) b) (g:0≤n∧n<l.length) (ex:x=l.getD n.toNat (dflt 8)) (em:k=n+1) (hb:b.length≤5000) (e1:k0=x.kind) (hf:∃ c,9≤c.length∧c.length≤521∧c.getD 0 0=k0∧(c.take (c.length-4)).drop 5=x.body∧f=126::(stf c++[126])) (ez:z=b++f):Gd (l.take k.toNat) z:=by
  obtain⟨c,c1,c2,c3,c4,rfl⟩:=hf
  obtain⟨h1,h2,h3,h4⟩:=h
  have L:=qq0 c
  have fr:∀ s:Bool,∃ s',ql1 (s,false,[]) b=(s',false,[]):=fun s=>⟨_,Prod.ext rfl (h3 s).1⟩
  have mg:∀ s,msgs (s,false,[]) z=msgs (true,false,[]) b++pcL (stf c):=fun s=>by
    obtain⟨s',e⟩:=fr s
    rw[ez,qn3,(h3 s).2,e,(qzv c2 s').2]
  have lz:z.length=b.length+(stf c).length+2:=by rw[ez];simp;omega
  refine⟨by omega,.inr ?_,fun s=>⟨?_,by rw[mg,mg]⟩,fun y hy=>?_⟩
  · rw[lz,ez,List.getD_eq_getElem?_getD,List.getElem?_append_right (by omega),show b.length+(stf c).length+2-1-b.length=(stf c).length+1 by omega,List.getElem?_cons_succ,List.getElem?_append_right (by omega),Nat.sub_self];rfl
  · obtain⟨s',e⟩:=fr s
    rw[ez,qq1,e,(qzv c2 s').1]
  · rw[mg] at hy
    rw[q5q (dflt 8) g em,← ex]
    rcases List.mem_append.1 hy with hy|hy
    · obtain⟨q,hq,e⟩:=h4 y hy
      exact⟨q,List.mem_append_left _ hq,e⟩
    · refine⟨x,by simp,?_⟩
      rcases pcL_w (u:=stf c) (by omega) with e|⟨m',e,-,h5⟩
      · rw[e] at hy;simp at hy
      · rw[e] at hy
        simp only[List.mem_singleton] at hy
        obtain⟨h6,h7⟩:=h5 c (q73 c)
        rw[hy,h6,h7,c3,c4]
        exact⟨e1,rfl⟩
def Gvn (l:List Inp) (m:List (List Msg)) (n:Int) (z:List Inp):Prop:=z.length=l.length∧(∀ k:Nat,(k:Int)<n→z.getD k (dflt 24)={l.getD k (dflt 24) with bytesf:=(z.getD k (dflt 24)).bytesf}∧Gd (m.getD k (dflt 11)) (z.getD k (dflt 24)).bytesf)∧∀ k:Nat,n≤(k:Int)→z.getD k (dflt 24)=l.getD k (dflt 24)
theorem q3V {α:Type} {z:List α} {n k:Nat} {x d:α} (h:n<z.length):(z.set n x).getD k d=if k=n then x else z.getD k d:=by
  rw[List.getD_eq_getElem?_getD]
  split
  · rename_i e
    rw[e,List.getElem?_set_self h];rfl
  · rename_i e
    rw[List.getElem?_set_ne (Ne.symm e),List.getD_eq_getElem?_getD]
theorem Gvn.go {l:List Inp} {m:List (List Msg)} {z z':List Inp} {n k:Int} {b:List UInt8} (h:Gvn l m n z) (g:0≤n∧n<z.length) (em:k=n+1) (hz:z'=z.set n.toNat {z.getD n.toNat (dflt 24) with bytesf:=b}) (hb:Gd (m.getD n.toNat (dflt 11)) b):Gvn l m k z':=by
  obtain⟨h1,h2,h3⟩:=h
  have q:∀ i:Nat,z'.getD i (dflt 24)=if i=n.toNat then {z.getD n.toNat (dflt 24) with bytesf:=b} else z.getD i (dflt 24):=fun i=>by rw[hz];exact q3V (by omega)
  refine⟨by rw[hz,List.length_set,h1],fun i hi=>?_,fun i hi=>by rw[q,if_neg (by omega)];exact h3 i (by omega)⟩
  rw[q]
  by_cases c:i=n.toNat
  · rw[if_pos c,c,h3 n.toNat (by omega)]
    exact⟨rfl,hb⟩
  · rw[if_neg c]
    exact h2 i (by omega)
theorem set2 {z z6 z10:List Inp} {n:Nat} {b:List UInt8} (h:n<z.length) (e6:z6=z.set (0+n) {z.getD (0+n) (dflt 24) with bytesf:=[]}) (e10:z10=z6.set (0+n) {z6.getD (0+n) (dflt 24) with bytesf:=b}):z10=z.set n {z.getD n (dflt 24) with bytesf:=b}:=by
  rw[Nat.zero_add] at e6 e10
  subst e6
  rw[e10,q3V h,if_pos rfl,List.set_set]
def MOk (m:List (List Msg)):Prop:=m.length≤140737488355328∧∀ x∈m,x.length≤140737488355328∧∀ y∈x,y.body.length≤140737488355328
theorem q1I {l:List Msg} (p0:l.length≤140737488355328) (p1:∀ y∈l,y.body.length≤140737488355328):W (qpL l) (fun r=>r.2=true→Gd l r.1):=by
 unfold qpL qlh
 refine qaj (fun v=>∃ z2 n4,v=((z2,()),(),l,n4,())∧(0≤n4∧n4≤l.length)∧(Gd (l.take n4.toNat) z2)) (fun((z2,_),_,_,n4,_)=>(l.length-n4).toNat) ⟨_,_,rfl,by omega,gd_nil _⟩ (by simp only[NN];omega) ?_
 rintro r1 _ ⟨z2,n4,rfl,hr1_0,hr1_1⟩ ihr1
 have lz2:=hr1_1.1
 refine W_if (fun c1=>?_) fun c1=>?_
 ·refine W_ix (by omega) fun x5 hx5=>?_
  have g5:=p1 x5 (by rw[hx5];exact qaV (by omega))
  refine qab (qm1 (by dsimp only;omega)) ?_
  rintro⟨z6,n7⟩ hz6
  try dsimp only at hz6
  refine W_if (fun c2=>?_) fun c2=>?_
  ·refine qaa ?_
   exact fun h=>by simp at h
  ·refine W_rm (by first|omega|(rw[List.length_drop];omega)|(simp<;>omega)) ?_
   refine qac fun z8 hz8=>?_
   have lz8:=congrArg List.length hz8;try simp at lz8
   refine qah (by omega) fun n9 hn9=>?_
   refine W_rs (by first|rfl|omega|(simp<;>omega)) ?_
   exact ihr1.use _ ⟨_,_,rfl,by omega,hr1_1.go (by omega) hx5 hn9 (by omega) (by rw[Int.toNat_natCast,UInt8.ofNat_toNat]) (hz6.2 (by omega)).2 (by rw[hz8,List.take_length,List.take_length])⟩ (by dsimp only;omega)
 ·refine W_rs (by first|rfl|omega|(simp<;>omega)) ?_
  refine qaa ?_
  intro _;rw[List.take_of_length_le (by omega)] at hr1_1;exact hr1_1
theorem q5i {l:List Inp} {m:List (List Msg)} (p0:l.length*88≤140737488355328) (p1:MOk m):W (qvE l m) (fun r=>(r.2=true→Gvn l m l.length r.1)∧(m=[]→r.2=true)):=by
 unfold qvE qpT
 refine qaf (by first|omega|(rw[List.length_drop];omega)|(simp<;>omega)) ?_
 refine qac fun z1 hz1=>?_
 have lz1:=congrArg List.length hz1;try simp at lz1
 refine W_rs (by first|rfl|omega|(simp<;>omega)) ?_
 refine qaj (fun v=>∃ z3 n5,v=((z3,()),(),m,n5,())∧(0≤n5∧n5≤l.length)∧(Gvn l m n5 z3)) (fun((z3,_),_,_,n5,_)=>((l.length:Int)-n5).toNat) ⟨_,_,rfl,⟨by omega,by omega⟩,⟨hz1▸rfl,fun k hk=>by omega,fun k hk=>by rw[hz1]⟩⟩ (by simp only[NN];omega) ?_
 rintro r2 _ ⟨z3,n5,rfl,hr2_0,hr2_1⟩ ihr2
 have lz3:=hr2_1.1
 refine W_if (fun c3=>?_) fun c3=>?_
 ·have pm:=p1.1
  refine W_rb (by first|omega|(rw[List.length_drop];omega)|(simp<;>omega)) ?_
  refine qaf (by first|omega|(rw[List.length_drop];omega)|(simp<;>omega)) ?_
  refine qac fun z6 hz6=>?_
  have lz6:=congrArg List.length hz6;try simp at lz6
  refine W_if (fun c6=>?_) fun c6=>?_
  ·refine qah (by omega) fun n12 hn12=>?_
   refine W_rs (by first|rfl|omega|(simp<;>omega)) ?_
   exact ihr2.use _ ⟨_,_,rfl,by omega,hr2_1.go (by omega) hn12 (by rw[hz6,Nat.zero_add]) (gd_nil _)⟩ (by dsimp only;omega)
  ·refine W_ix (by omega) fun z7 hz7=>?_
   have g7:=p1.2 z7 (by rw[hz7];exact qaV (by omega))
   refine qab (q1I g7.1 g7.2) ?_
   rintro⟨z8,b9⟩ hz8
   try dsimp only at hz8
   refine W_if (fun c8=>?_) fun c8=>?_
   ·refine qaa ?_
    exact⟨fun h=>by simp at h,fun h=>by have:=congrArg List.length h;rw[List.length_nil] at this;omega⟩
   ·refine W_rb (by first|omega|(rw[List.length_drop];omega)|(simp<;>omega)) ?_
    refine qaf (by first|omega|(rw[List.length_drop];omega)|(simp<;>omega)) ?_
    refine qac fun z10 hz10=>?_
    have lz10:=congrArg List.length hz10;try simp at lz10
    refine qah (by omega) fun n11 hn11=>?_
    refine W_rs (by first|rfl|omega|(simp<;>omega)) ?_
    exact ihr2.use _ ⟨_,_,rfl,by omega,hr2_1.go (by omega) hn11 (set2 (by omega) hz6 hz10) (by rw[List.take_length,← hz7];exact hz8 (Classical.not_not.1 c8))⟩ (by dsimp only;omega)
 ·refine W_rs (by first|rfl|omega|(simp<;>omega)) ?_
  refine qaa ?_
  exact⟨fun _=>(show n5=(l.length:Int) by omega)▸hr2_1,fun _=>rfl⟩
end Go.Proofs.YtcdppfnjidlknaaGreatDoor
namespace Go.Proofs.YtcdppfnjidlknaaGreatDoor
open Go Go.Eng Go.Proofs Go.Wp
theorem q7B:∀ {l:List Msg} {a:Bool×Int×List Msg} {m:Msg},m∈(lfo a l).2.2→m∈a.2.2∨m∈l
 | [],a,m,h=>.inl h
 |x::l,a,m,h=>by
  rcases q7B (l:=l) (a:=lst a x) h with g|g
  ·
   unfold lst at g
   split at g
   ·
    exact .inl g
   ·
    rcases List.mem_append.1 g with g|g
    ·
     exact .inl g
    ·
     exact .inr (List.mem_cons.2 (.inl (by simpa using g)))
  ·
   exact .inr (List.mem_cons_of_mem _ g)
theorem q3W:∀ {t:SiteT} {l:List Msg} {a:Bool×Int×Int×List Int},(cfo t a l).1=true→a.1=true∨∃ m∈l,qal t m=some true
 |t,[],a,h=>.inl h
 |t,x::l,a,h=>by
  rcases q3W (l:=l) (a:=cfs t a x) h with g|⟨m,hm,g⟩
  ·
   by_cases c:qal t x=some true
   ·
    exact .inr ⟨x,List.mem_cons_self ..,c⟩
   ·
    unfold cfs at g
    rw[if_neg c] at g
    exact .inl g
  ·
   exact .inr ⟨m,List.mem_cons_of_mem _ hm,g⟩
theorem qzw {t:SiteT} {x y:Msg} (e1:x.kind=y.kind) (e2:x.body=y.body):qal t x=qal t y:=by
 unfold qal qcb
 rw[e1,e2]
noncomputable abbrev ms (b:List UInt8):List Msg:=msgs (true,false,[]) b
noncomputable def hF (s:SiteT) (x:LocT) (l:List Msg) (re:List UInt8):Bool×LocT :=
 let f:=lfo (x.any,x.last,[]) l
 let c:=cfo s (false,x.cycle,x.offset,x.splits) f.2.2
 (c.1,{x with any:=f.1,last:=f.2.1,lage:=if f.2.2=[] then min (x.lage+1) 1048576 else 0,rest:=re,cycle:=c.2.1,offset:=c.2.2.1,splits:=c.2.2.2,age:=if c.1=true then 0 else min (x.age+1) 1048576})
def Rs (r:List UInt8):Prop:=r=[]∨r=[126]
def reF (x:LocT) (b:List UInt8):List UInt8:=if x.rest++b=[] then [] else [126]
theorem reF_rs (x:LocT) (b:List UInt8):Rs (reF x b):=by
 unfold reF;split
 ·
  exact .inl rfl
 ·
  exact .inr rfl
theorem hear_x {s:SiteT} {x:LocT} {i:Inp} {l:List Msg} (sg:SG s) (ok:LOk s x) (rs:Rs x.rest) (gd:Gd l i.bytesf) :
  qeH s x i [] [] [] [] []=some ((hF s x (ms i.bytesf) (reF x i.bytesf)).1,s,(hF s x (ms i.bytesf) (reF x i.bytesf)).2,i,[],[],[],[],[]):=by
 obtain⟨g1,g2,g3,-⟩:=gd
 obtain⟨⟨b,r⟩,e,an,la,lg,re,cy,og,sp,e2,-,-,-,sc,tk,n,f1,f2,f3,f4⟩:=qtB (t:=s) (t2:=x) (t3:=i) (t4:=[]) (t5:=[]) (t6:=[]) (t7:=[]) (t8:=[]) sg ok (by omega)
 have ea:hall x i=x.rest++i.bytesf:=by
  unfold hall
  rw[List.take_of_length_le (by omega)];simp
 rw[ea] at f1 f3
 have lr:x.rest.length≤1:=by rcases rs with h|h<;>rw[h]<;>simp
 have ll:(x.rest++i.bytesf).length≤6101:=by rw[List.length_append];omega
 obtain⟨sc',e3,h1,-,h2,h3⟩:=qq2 (b:=x.rest++i.bytesf) (by omega)
 rw[f1] at e3
 obtain rfl:=Option.some.inj e3
 obtain⟨h4,h5,h6⟩:=h3 (by omega)
 have em:msgs (false,false,[]) (x.rest++i.bytesf)=ms i.bytesf:=by
  rcases rs with h|h
  ·
   rw[h];exact(g3 false).2
  ·
   rw[h];rfl
 rw[em] at h4
 obtain⟨q,e4,-,-,-,h7⟩:=ql7 (l:=x.any) (l2:=x.last) (l3:=x.lage) (got:=sc.1) ok.link (by omega)
 rw[f2] at e4
 obtain rfl:=Option.some.inj e4
 have h8:=h7 (by omega) h1
 simp only[Prod.mk.injEq] at h8
 obtain⟨k1,-,k2,k3,k4⟩:=h8
 have er:re=reF x i.bytesf:=by
  rw[f3]
  unfold reF
  by_cases c:x.rest++i.bytesf=[]
  ·
   rw[if_pos c,c];simp
  ·
   rw[if_neg c]
   have lp:0<(x.rest++i.bytesf).length:=List.length_pos_iff.2 c
   have e5:(x.rest++i.bytesf).getD ((x.rest++i.bytesf).length-1) 0=126:=by
    rcases g2 with h|h
    ·
     rw[h,List.append_nil] at c ⊢
     rcases rs with h'|h'
     ·
      exact absurd h' c
     ·
      rw[h'];rfl
    ·
     by_cases d:i.bytesf=[]
     ·
      rw[d] at h;simp at h
     ·
      have:=List.length_pos_iff.2 d
      rw[List.length_append,List.getD_eq_getElem?_getD,List.getElem?_append_right (by omega),show x.rest.length+i.bytesf.length-1-x.rest.length=i.bytesf.length-1 by omega,← List.getD_eq_getElem?_getD];exact h
   rw[h6 e5,if_pos (by omega)]
   have e6:(((x.rest++i.bytesf).length:Int)-1).toNat=(x.rest++i.bytesf).length-1:=by omega
   rw[e6,List.drop_eq_getElem_cons (by omega),show (x.rest++i.bytesf).length-1+1=(x.rest++i.bytesf).length by omega,List.drop_length]
   rw[List.getD_eq_getElem?_getD,List.getElem?_eq_getElem (by omega)] at e5
   exact congrArg (fun y=>[y]) e5
 rw[e]
 dsimp only at e2 f4
 rw[e2]
 rw[← h4]
 unfold hF
 dsimp only
 rw[← k1,← k2,← k3,← er]
 have k5:(if tk=[] then min (x.lage+1) 1048576 else 0)=lg:=by rw[k4,k1]
 rw[k5,← f4]
theorem told_cmd {s:SiteT} {x:LocT} {l:List Msg} {b re:List UInt8} (gd:Gd l b) (h:(hF s x (ms b) re).1=true):∃ y∈l,qal s y=some true:=by
 rcases q3W (show (cfo s (false,x.cycle,x.offset,x.splits) (lfo (x.any,x.last,[]) (ms b)).2.2).1=true from h) with g|⟨m,hm,g⟩
 ·
  cases g
 ·
  rcases q7B hm with q|q
  ·
   cases q
  ·
   obtain⟨y,hy,e1,e2⟩:=gd.2.2.2 m q
   exact⟨y,hy,by rw[← qzw e1 e2];exact g⟩
end Go.Proofs.YtcdppfnjidlknaaGreatDoor
namespace Go.Proofs.YtcdppfnjidlknaaGreatDoor
open Go Go.Eng Go.Proofs Go.Wp
theorem qzx {s:SiteT} {x y:LocT} {i:Inp} {lights:List UInt8} {l:List Msg} (sg:SG s) (ok:LOk s x) (rs:Rs x.rest) (gd:Gd l i.bytesf) (w:Went s x i y lights):y.age=(if (hF s x (ms i.bytesf) (reF x i.bytesf)).1=true then 0 else min (x.age+1) 1048576)∧lnk y=lnk (hF s x (ms i.bytesf) (reF x i.bytesf)).2:=by
  obtain⟨b,h,e,e2,e3⟩:=w.age
  rw[hear_x sg ok rs gd] at e
  cases e
  exact⟨e2,e3⟩
theorem ran_rs {s:SiteT} {x y:LocT} {i:Inp} {lights:List UInt8} {l:List Msg} (sg:SG s) (ok:LOk s x) (rs:Rs x.rest) (gd:Gd l i.bytesf) (ran:Ran s x i y lights):Rs y.rest:=by
  by_cases c:i.lostf=true
  · have e:=(ran.lost c).link
    have e2:y.rest=[]:=congrArg (·.2.2.2) e
    rw[e2];exact .inl rfl
  · have e:=(qzx sg ok rs gd (ran.went (by simpa using c))).2
    have e2:y.rest=reF x i.bytesf:=congrArg (·.2.2.2) e
    rw[e2];exact reF_rs _ _
theorem xs_rs {s:SiteT} {x:LocT} {l:List Inp} (sg:SG s) (ok:LOk s x) (h:∀ i∈l,InOk i) (r0:x.rest=[]) (gd:∀ k:Nat,k<l.length→∃ m,Gd m (l.getD k (dflt 24)).bytesf):∀ k:Nat,k≤l.length→Rs (XS s x l k).rest
  |0,_=>.inl r0
  |k+1,hk=>by
    obtain⟨m,g⟩:=gd k (by omega)
    exact ran_rs sg (xs_ok sg ok h k (by omega)) (xs_rs sg ok h r0 gd k (by omega)) g (xs_ran sg ok h (by omega))
theorem gvn_mem {l:List Inp} {m:List (List Msg)} {z:List Inp} (h:Gvn l m l.length z) (t:∀ i∈l,InT i):∀ i∈z,InT i:=by
  obtain⟨h1,h2,-⟩:=h
  intro i hi
  obtain⟨k,hk,e⟩:=List.getElem_of_mem hi
  obtain⟨e1,e2⟩:=h2 k (by omega)
  rw[qbC hk,e] at e1 e2
  have q:=t _ (qaV (l:=l) (n:=(k:Int)) (d:=dflt 24) (by omega))
  rw[Int.toNat_natCast] at q
  have b:=e2.1
  rw[e1]
  exact⟨q.1,by dsimp only;omega,q.2.2⟩
theorem gvn_gd {l:List Inp} {m:List (List Msg)} {z:List Inp} (h:Gvn l m l.length z):∀ k:Nat,k<z.length→∃ q,Gd q (z.getD k (dflt 24)).bytesf:=fun k hk=>⟨_,(h.2.1 k (by have:=h.1;omega)).2⟩
theorem heard {s:SiteT} {x y:LocT} {i:Inp} {lights:List UInt8} {m:List Msg} {q r:Int} (sg:SG s) (ok:LOk s x) (rs:Rs x.rest) (gd:Gd m i.bytesf) (ran:Ran s x i y lights) (h:x.age<1048576→q≤x.age) (hr:r=0∨r=q+1∧∀ n∈m,qal s n≠some true) (nl:¬ i.lostf=true):(y.age<1048576→r≤y.age)∧(y.mode=3→r<s.watch):=by
  have w:=ran.went (by simpa using nl)
  obtain⟨e,-⟩:=qzx sg ok rs gd w
  have ag:=ran.ok.age
  have g:y.age<1048576→r≤y.age:=by
    intro hy
    rcases hr with hr|⟨hr,hn⟩
    · omega
    · rw[if_neg (fun c=>by obtain⟨n,hm,hc⟩:=told_cmd gd c;exact hn n hm hc)] at e
      have:=h (by omega)
      omega
  refine⟨g,fun hm=>?_⟩
  obtain⟨f1,f2,f3,f4,rg,hf,-⟩:=w.rung
  have:=hf (rg.2.2.2.2.1 hm).1
  have wt:=sg.ok.times.1
  unfold Tk at wt
  have:=g (by omega)
  omega
theorem cmd_arg {s:SiteT} {x:Msg} {b:Bool} (e:qal s {kind:=UInt8.ofNat (x.kind.toNat:Int).toNat,seq:=UInt32.ofNat (x.seq.toNat:Int).toNat,body:=x.body:Msg}=some b):qal s x=some true↔b=true:=by
  have q:qal s x=some b:=by rw[← e];exact qzw (by dsimp only;rw[Int.toNat_natCast,UInt8.ofNat_toNat]) rfl
  rw[q];simp
theorem mok_len {m:List (List Msg)} (h:MOk m) (k:Nat):(m.getD k (dflt 11)).length≤140737488355328∧(m.length≤k→(m.getD k (dflt 11)).length=0):=by
  by_cases c:k<m.length
  · rw[qbC c];exact⟨(h.2 _ (List.getElem_mem _)).1,fun h=>by omega⟩
  · rw[List.getD_eq_getElem?_getD,List.getElem?_eq_none (by omega)]
    exact⟨Nat.zero_le _,fun _=>rfl⟩
theorem cmd_all {s:SiteT} {l:List Msg} {n:Int} (h:∀ j:Nat,(j:Int)<n→qal s (l.getD j (dflt 8))≠some true) (g:(l.length:Int)≤n):∀ q∈l,qal s q≠some true:=by
  intro q hq
  obtain⟨k,hk,e⟩:=List.getElem_of_mem hq
  have:=h k (by omega)
  rw[qbC hk,e] at this;exact this
theorem cmd_step {s:SiteT} {l:List Msg} {n k:Int} {x:Msg} (h:∀ j:Nat,(j:Int)<n→qal s (l.getD j (dflt 8))≠some true) (g:0≤n) (ex:x=l.getD n.toNat (dflt 8)) (c:qal s x≠some true) (em:k=n+1):∀ j:Nat,(j:Int)<k→qal s (l.getD j (dflt 8))≠some true:=by
  intro j hj
  by_cases d:(j:Int)=n
  · rw[show j=n.toNat by omega,← ex];exact c
  · exact h j (by omega)
theorem qwb {s:SiteT} {m:Msg} (p0:m.body.length≤140737488355328):W (qal s m) (fun _=>True):=by
 unfold qal qcb
 refine qab (qcP (by first|omega|assumption|(simp<;>omega))) ?_
 rintro⟨n1,n2,n3,n4,z5⟩ hn1
 try dsimp only at hn1
 refine qaa ?_
 trivial
theorem qwc {s:SiteT} {d:List UInt8} {l:List Inp} {m:List (List Msg)} (p0:SWf s) (p1:∀ i∈l,InT i) (p2:l.length*88≤140737488355328) (p3:MOk m):W (qig s d l m) (fun r=>r=true):=by
 unfold qig qfG
 refine qbz (alive_ok) ?_
 refine W_if (fun c1=>?_) fun c1=>?_
 ·exact absurd rfl c1
 ·refine qab (q5i (by first|omega|assumption|(simp<;>omega)) (by first|omega|assumption|(simp<;>omega))) ?_
  rintro⟨z2,b3⟩ hz2
  try dsimp only at hz2
  refine W_if (fun c2=>?_) fun c2=>?_
  ·refine qaa ?_
   rfl
  ·have gv:=hz2.1 (Classical.not_not.1 c2)
   have lt:(List.take z2.length z2)=z2:=List.take_length
   have lt2:(List.take z2.length z2).length=z2.length:=by rw[lt]
   have pz:=gvn_mem gv p1
   have lv:=gv.1
   refine qab (q7A (by rw[lt];exact pz)) ?_
   rintro b4 hb4
   rw[lt] at hb4
   refine W_if (fun c3=>?_) fun c3=>?_
   ·refine qaa ?_
    rfl
   ·have ft:=hb4 (Classical.not_not.1 c3)
    refine qab (q5h ft.1 p0 (by have:=ft.2.1;omega) (by rw[lt];have:=ft.2.2.1;omega) (by rw[lt];exact fit_in ft pz)) ?_
    rintro⟨z5,z6,n7⟩ hz5
    try dsimp only at hz5
    rw[lt] at hz5
    refine W_if (fun c4=>?_) fun c4=>?_
    ·refine qaa ?_
     rfl
    ·rcases hz5 with ⟨n,y0,h1,h2,h3⟩|rn
     · simp only[Prod.mk.injEq] at h3;exact absurd (by rw[h3.2.2];exact h1) c4
     have sg:=rn.sg
     obtain⟨x0,e0,nw,e1⟩:=rn.new
     simp only[Prod.mk.injEq] at e1
     obtain⟨ez5,ez6,ez7⟩:=e1
     have fin:=fit_in ft pz
     have okX:=fun k hk=>xs_ok sg nw.ok fin k hk
     have rsX:=fun k hk=>xs_rs sg nw.ok fin nw.link.2.2.2 (gvn_gd gv) k hk
     have l6:z6.length=z2.length:=by rw[ez6];exact rng_len
     have l200:=ft.2.2.1
     refine qaj (fun v=>∃ n14 n15,v=((),((s,()),()),m,true,(List.take z2.length z2),z6,n14,n15,())∧(0≤n15∧n15≤z2.length)∧(0≤n14∧n14≤1048576+n15)∧((XS s x0 z2 n15.toNat).age<1048576→n14≤(XS s x0 z2 n15.toNat).age)) (fun(_,((_,_),_),_,_,_,_,n14,n15,_)=>((z2.length:Int)-n15).toNat) ⟨_,_,rfl,by omega,by omega,fun h=>by have e:(XS s x0 z2 (0:Int).toNat).age=1048576:=nw.age;omega⟩ (by simp only[NN];omega) ?_
     rintro r8 _ ⟨n14,n15,rfl,hr8_0,hr8_1,hr8_2⟩ ihr8
     refine W_if (fun c5=>?_) fun c5=>?_
     ·have oX:=okX n15.toNat (by omega)
      have rX:=rsX n15.toNat (by omega)
      have gdX:=(gv.2.1 n15.toNat (by omega)).2
      have ran:=xs_ran sg nw.ok fin (k:=n15.toNat) (by omega)
      have md:=mode_get (s:=s) (x:=x0) (l:=z2) (k:=n15.toNat) ran.ok (by omega)
      rw[← ez6] at md
      have rg2:=ran.ok.rung.1
      have pm:=p3.1
      have mb:=mok_len p3 n15.toNat
      refine qah (by omega) fun n16 hn16=>?_
      refine qaj (fun v=>∃ n23 n25,v=((),((s,()),()),m,true,(List.take z2.length z2),z6,n23,n15,n25,())∧(0≤n25∧n25≤(m.getD n15.toNat (dflt 11)).length)∧(0≤n23∧n23≤1048576+n15+1)∧(n23=0∨n23=n14+1∧∀ j:Nat,(j:Int)<n25→qal s ((m.getD n15.toNat (dflt 11)).getD j (dflt 8))≠some true)) (fun(_,((_,_),_),_,_,_,_,n23,_,n25,_)=>(((m.getD n15.toNat (dflt 11)).length:Int)-n25).toNat) ⟨_,_,rfl,by omega,by omega,.inr ⟨hn16,fun j hj=>by omega⟩⟩ (by simp only[NN];omega) ?_
      rintro r17 _ ⟨n23,n25,rfl,hr17_0,hr17_1,hr17_2⟩ ihr17
      refine qaf (by first|omega|(rw[List.length_drop];omega)|(simp<;>omega)) ?_
      refine qac fun z26 hz26=>?_
      subst hz26
      refine W_if (fun c7=>?_) fun c7=>?_
      ·refine W_ix (by omega) fun z34 hz34=>?_
       subst hz34
       refine W_ix (by omega) fun x35 hx35=>?_
       have g34:=p3.2 (m.getD n15.toNat (dflt 11)) (qaV (by omega))
       have g35:=g34.2 x35 (by rw[hx35];exact qaV (by omega))
       refine qab (ql6 (qwb (by dsimp only;omega))) ?_
       rintro b36 hb36
       obtain⟨-,e36⟩:=hb36
       have q36:=cmd_arg e36
       refine W_if (fun c8=>?_) fun c8=>?_
       ·refine qah (by omega) fun n38 hn38=>?_
        exact ihr17.use _ ⟨_,_,rfl,by omega,by omega,.inl rfl⟩ (by dsimp only;omega)
       ·refine qah (by omega) fun n37 hn37=>?_
        exact ihr17.use _ ⟨_,_,rfl,by omega,by omega,(hr17_2).imp id fun h=>⟨h.1,cmd_step h.2 (by omega) hx35 (fun e=>c8 (q36.1 e)) hn37⟩⟩ (by dsimp only;omega)
      ·refine W_ix (by omega) fun x27 hx27=>?_
       rw[lt] at hx27
       refine W_if (fun c9=>?_) fun c9=>?_
       ·refine W_ix (by omega) fun x31 hx31=>?_
        rw[← hx31] at md
        refine qaf (by first|omega|(rw[List.length_drop];omega)|(simp<;>omega)) ?_
        refine qac fun x32 hx32=>?_
        refine W_if (fun c11=>?_) fun c11=>?_
        ·refine qaa ?_
         exfalso
         have:=(ran.lost (hx27▸c9)).mode
         omega
        ·refine qah (by omega) fun n33 hn33=>?_
         exact ihr8.use _ ⟨_,_,rfl,by omega,by omega,fun h=>by rw[show n33.toNat=n15.toNat+1 by omega] at h;have:=(ran.lost (hx27▸c9)).age;omega⟩ (by dsimp only;omega)
       ·have hd:=heard sg oX rX gdX ran hr8_2 (hr17_2.imp id fun h=>⟨h.1,cmd_all h.2 (by omega)⟩) (hx27▸c9)
        refine W_ix (by omega) fun x28 hx28=>?_
        rw[← hx28] at md
        refine qaf (by first|omega|(rw[List.length_drop];omega)|(simp<;>omega)) ?_
        refine qac fun x29 hx29=>?_
        refine W_if (fun c13=>?_) fun c13=>?_
        ·refine qaa ?_
         exfalso
         have hw:=hd.2
         rw[hx29,← hx28,md] at c13
         have:=hw (by omega)
         omega
        ·refine qah (by omega) fun n30 hn30=>?_
         exact ihr8.use _ ⟨_,_,rfl,by omega,by omega,fun h=>by rw[show n30.toNat=n15.toNat+1 by omega] at h ⊢;exact hd.1 h⟩ (by dsimp only;omega)
     ·refine qaa ?_
      rw[lt2];simp;omega
end Go.Proofs.YtcdppfnjidlknaaGreatDoor
