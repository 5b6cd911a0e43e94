import Derived.Test.YtcdppfnjidlknaaGreatDoorHbf
set_option linter.unusedVariables false
set_option linter.unusedSimpArgs false
namespace Go.Proofs.YtcdppfnjidlknaaGreatDoor
open Go Go.Eng Go.Proofs Go.Wp
set_option maxRecDepth 20000
theorem rep16:(List.range 17).all (fun k=>decide (qe7 [UInt8.ofNat 4] (k:Int)=some (List.replicate k (UInt8.ofNat 4))))=true:=by kernel_rfl
theorem rep_w {n:Int} (h:0≤n∧n≤16):qe7 [UInt8.ofNat 4] n=some (List.replicate n.toNat (UInt8.ofNat 4)):=by
  have:=List.all_eq_true.1 rep16 n.toNat (List.mem_range.2 (by omega))
  rw[decide_eq_true_eq,Int.toNat_of_nonneg h.1] at this
  exact this
theorem rep4 {n k:Nat} (h:k<n):La (List.replicate n (UInt8.ofNat 4)) k=4:=by
  unfold La
  rw[List.getD_eq_getElem?_getD,List.getElem?_replicate,if_pos h];rfl
noncomputable def cfs (t:SiteT) (a:Bool×Int×Int×List Int) (m:Msg):Bool×Int×Int×List Int:=if qal t m=some true then (match qa1 m.body with
  |some c=>(match qcN t {cycle:=c.2.2.1,offset:=c.2.2.2.1,splits:=c.2.2.2.2} with
    |some p=>(true,p.2.cycle,p.2.offset,p.2.splits)
    |none=>a)
  |none=>a) else a
noncomputable abbrev cfo (t:SiteT) (a:Bool×Int×Int×List Int) (l:List Msg):Bool×Int×Int×List Int:=l.foldl (cfs t) a
theorem cmd_eq {t:SiteT} {x:Msg} {n1 n2 n3 n4:Int} {z:List Int} (e:qa1 x.body=some (n1,n2,n3,n4,z)):qal t x=some true↔((x.kind.toNat:Int)=2∧n1=0)∧n2=t.id:=by
  have:qal t x=some (bif bif (x.kind.toNat:Int)==(2:Int) then n1==(0:Int) else false then n2==t.id else false):=by
    unfold qal qcb
    rw[e];rfl
  rw[this,Option.some.injEq]
  exact BP.iff
theorem cf_yes {t:SiteT} {x:Msg} {a:Bool×Int×Int×List Int} {n1 n2 n3 n4 k:Int} {z:List Int} {p:Plan} (e:qa1 x.body=some (n1,n2,n3,n4,z)) (c:((x.kind.toNat:Int)=2∧n1=0)∧n2=t.id) (ep:qcN t {cycle:=n3,offset:=n4,splits:=z}=some (k,p)):(true,p.cycle,p.offset,p.splits)=cfs t a x:=by
  unfold cfs
  rw[if_pos ((cmd_eq e).2 c),e]
  dsimp only
  rw[ep]
theorem cf_no {t:SiteT} {x:Msg} {a:Bool×Int×Int×List Int} {n1 n2 n3 n4:Int} {z:List Int} (e:qa1 x.body=some (n1,n2,n3,n4,z)) (c:¬ (((x.kind.toNat:Int)=2∧n1=0)∧n2=t.id)):a=cfs t a x:=by
  unfold cfs
  rw[if_neg (fun h=>c ((cmd_eq e).1 h))]
def hall (x:LocT) (i:Inp):List UInt8:=[x.rest,List.take (min (8192:Int) (i.bytesf.length:Int)).toNat i.bytesf].flatten
def Hrd (t:SiteT) (x:LocT) (i:Inp) (b an:Bool) (la lg:Int) (re:List UInt8) (cy og:Int) (sp:List Int):Prop:=∃ sc tk n,qj1 (hall x i)=some sc∧qjf x.any x.last x.lage sc.1=some (tk,n,an,la,lg)∧re=(if 0≤sc.2.1∧((hall x i).length:Int)-sc.2.1≤2048 then (hall x i).drop sc.2.1.toNat else [])∧(b,cy,og,sp)=cfo t (false,x.cycle,x.offset,x.splits) tk
theorem q1F {t:SiteT} {t2:LocT} {t3:Inp} {t4:List Put} {t5:List Pls} {t6:List UInt8} {t7:List UInt8} {t8:List UInt8} (p0:SG t) (p1:LOk t t2):W (qqm t t2 t3 t4 t5 t6 t7 t8) (fun r=>(t,t2,t3,t5,t6,t7,t8)=(r.1,r.2.1,r.2.2.1,r.2.2.2.2)∧(t4=r.2.2.2.1∨r.2.2.2.1.length≤32∧∀ p∈r.2.2.2.1,p.data.length=64)):=by
 unfold qqm qlt
 have dk:=p1.disk
 have rg:=p1.rung
 have td:=p1.told
 refine qab (qeN (by first|omega|assumption|(simp<;>omega))) ?_
 rintro⟨n1,n2,n3,z4⟩ hn1
 try dsimp only at hn1
 refine qaf (by first|omega|(rw[List.length_drop];omega)|(simp<;>omega)) ?_
 refine qac fun x5 hx5=>?_
 refine W_if (fun c2=>?_) fun c2=>?_
 ·refine qab (q1N (by have:=(hn1.1.2 x5 (by rw[hx5];exact qaV (n:=0) (by omega))).1;omega)) ?_
  rintro b8 hb8
  refine W_if (fun c3=>?_) fun c3=>?_
  ·refine qaa ?_
   exact⟨rfl,.inl rfl⟩
  ·refine qab (qtD (by omega) (by omega) (by simp;omega)) ?_
   rintro⟨z9,n10⟩ hz9
   try dsimp only at hz9
   refine qaa ?_
   exact⟨rfl,.inr hz9⟩
 ·refine qab (qtD (by omega) (by omega) (by simp;omega)) ?_
  rintro⟨z6,n7⟩ hz6
  try dsimp only at hz6
  refine qaa ?_
  exact⟨rfl,.inr hz6⟩
theorem qii {t:SiteT} {t2:LocT} {t3:Inp} {t4:List Put} {t5:List Pls} {t6:List UInt8} {t7:List UInt8} {t8:List UInt8} (p0:SG t):W (qf8 t t2 t3 t4 t5 t6 t7 t8) (fun r=>(List.replicate t.groups.length (UInt8.ofNat 4),t,t2,t3,t4,t5,t6,t7,t8)=r):=by
 unfold qf8 qlg
 obtain⟨⟨q1,q2,q3,q4,q5,q6,q7,q8⟩,q9⟩:=p0.ok.shape
 refine qbz (rep_w (by omega)) ?_
 refine qaa ?_
 rw[List.take_length,Int.toNat_natCast]
theorem q5f {t:TickT} (p0:SG t.site) (p1:t.loc.gaps.length=t.site.eyes.length):W (qv6 t) (fun _=>True):=by
 unfold qv6 qpE
 obtain⟨⟨q1,q2,q3,q4,q5,q6,q7,q8⟩,q9⟩:=p0.ok.shape
 refine qaj (fun v=>∃ n3 n6,v=((),(),t,n3,t.site.phases,(t.site.phases.length:Int),n6,())∧(0≤n6∧n6≤(t.site.phases.length:Int))) (fun(_,_,_,n3,_,_,n6,_)=>((t.site.phases.length:Int)-n6).toNat) ⟨_,_,rfl,by first|omega|(simp<;>omega)⟩ (by simp only[NN];omega) ?_
 rintro r1 _ ⟨n3,n6,rfl,hr1_0⟩ ihr1
 refine W_if (fun c1=>?_) fun c1=>?_
 ·refine W_ix (by omega) fun x7 hx7=>?_
  refine qaj (fun v=>∃ b13 n19,v=((),((x7,()),()),t,n3,n6,b13,t.site.phases,(t.site.phases.length:Int),n6,t.site.eyes,(t.site.eyes.length:Int),n19,())∧(0≤n19∧n19≤(t.site.eyes.length:Int))) (fun(_,((_,_),_),_,_,_,b13,_,_,_,_,_,n19,_)=>((t.site.eyes.length:Int)-n19).toNat) ⟨_,_,rfl,by first|omega|(simp<;>omega)⟩ (by simp only[NN];omega) ?_
  rintro r8 _ ⟨b13,n19,rfl,hr8_0⟩ ihr8
  refine W_if (fun c2=>?_) fun c2=>?_
  ·refine W_ix (by omega) fun x24 hx24=>?_
   refine W_ix (by omega) fun x25 hx25=>?_
   refine qab (q7J) ?_
   rintro⟨b26,n27⟩ hb26
   try dsimp only at hb26
   refine qah (by omega) fun n28 hn28=>?_
   exact ihr8.use _ ⟨_,_,rfl,by first|omega|(simp<;>omega)⟩ (by dsimp only;omega)
  ·refine W_if (fun c3=>?_) fun c3=>?_
   ·refine qaf (by first|omega|(rw[List.length_drop];omega)|(simp<;>omega)) ?_
    refine qac fun n21 hn21=>?_
    refine qac fun n22 hn22=>?_
    refine qah (by omega) fun n23 hn23=>?_
    exact ihr1.use _ ⟨_,_,rfl,by first|omega|(simp<;>omega)⟩ (by dsimp only;omega)
   ·refine qah (by omega) fun n20 hn20=>?_
    exact ihr1.use _ ⟨_,_,rfl,by first|omega|(simp<;>omega)⟩ (by dsimp only;omega)
 ·refine qaa ?_
  trivial
theorem q75 {t:SiteT} {t2:LocT} {t3:Inp} {t4:List Put} {t5:List Pls} {t6:List UInt8} {t7:List UInt8} {t8:List UInt8} {k:Int} {k2:Int} {k3:List Plan} (p0:SG t) (p1:LOk t t2) (p2:t2.mode=2→0<k3.length) (p3:∀ p∈k3,p.splits.length≤8):W (qqu t t2 t3 t4 t5 t6 t7 t8 k k2 k3) (fun r=>∃ ph si asks,r=(t,{t2 with phase:=ph,since:=si},t3,t4,t5,asks,t7,t8)∧((0≤ph∧ph<t.phases.length)∧0≤si∧si≤1048576)∧asks.length=t.groups.length∧(t2.mode=0→AllF asks)∧(t2.mode≠0→FA (fun i=>La asks i=1∨La asks i=2) t.groups.length)):=by
 unfold qqu qvQ
 obtain⟨⟨q1,q2,q3,q4,q5,q6,q7,q8⟩,q9⟩:=p0.ok.shape
 have td:=p1.told
 have sq:=p1.seq
 refine W_if (fun c1=>?_) fun c1=>?_
 ·refine qab (qii (by first|omega|assumption|(simp<;>omega))) ?_
  rintro⟨z26,x27,x28,x29,z30,z31,z32,z33,z34⟩ hz26
  try dsimp only at hz26
  simp only[Prod.mk.injEq] at hz26;obtain⟨rfl,rfl,rfl,rfl,rfl,rfl,rfl,rfl,rfl⟩:=hz26
  refine qaa ?_
  exact⟨t2.phase,t2.since,_,rfl,sq,by simp,fun _=>fun k hk=>rep4 (by simpa using hk),fun e=>absurd c1 e⟩
 ·refine W_if (fun c2=>?_) fun c2=>?_
  ·refine qaz (fun(_,((x18,x19,x20,z21,z22,z23,z24,z25,_),_),_)=>t=x18∧t3=x20∧t4=z21∧t5=z22∧t7=z24∧t8=z25∧(∃ ph si,x19={t2 with phase:=ph,since:=si}∧((0≤ph∧ph<t.phases.length)∧0≤si∧si≤1048576)∧z23.length=t.groups.length∧FA (fun i=>La z23 i=1∨La z23 i=2) t.groups.length)) (fun J12 hJ12=>?_) ?_
   ·refine qab (q5f p0 p1.gaps) ?_
    rintro n13 hn13
    refine qab (q7M p0 sq p1.now.1) ?_
    rintro⟨z14,n15,n16,n17⟩ hz14
    try dsimp only at hz14
    exact hJ12.use _ (by dsimp only;exact⟨rfl,rfl,rfl,rfl,rfl,rfl,n16,n17,rfl,⟨hz14.2.1,hz14.2.2⟩,hz14.1.1,hz14.1.2⟩)
   ·rintro⟨_,⟨⟨x18,x19,x20,z21,z22,z23,z24,z25,_⟩,_⟩,_⟩ kJ12;dsimp only at kJ12
    obtain⟨rfl,rfl,rfl,rfl,rfl,rfl,kJ12⟩:=kJ12
    refine qaa ?_
    obtain⟨ph,si,rfl,h1,h2⟩:=kJ12
    exact⟨ph,si,_,rfl,h1,h2.1,fun e=>absurd e c1,fun _=>h2.2⟩
  ·refine W_if (fun c3=>?_) fun c3=>?_
   ·refine qaf (by first|omega|(rw[List.length_drop];omega)|(simp<;>omega)) ?_
    refine qac fun x5 hx5=>?_
    have g5:=p3 x5 (by rw[hx5];exact qaV (n:=0) (by have:=p2 c3;omega))
    refine qab (qil p0 (by omega)) ?_
    rintro⟨n6,x7⟩ hn6
    try dsimp only at hn6
    refine qab (qqE p0 (by omega)) ?_
    rintro⟨n8,n9⟩ hn8
    try dsimp only at hn8
    refine qab (qdR (by first|omega|assumption|(simp<;>omega))) ?_
    rintro⟨z10,n11⟩ hz10
    try dsimp only at hz10
    refine qaa ?_
    exact⟨n8,0,_,rfl,⟨hn8,by omega⟩,(hz10 hn8).1,fun e=>absurd e c1,fun _=>(hz10 hn8).2⟩
   ·refine qab (qqE p0 (by dsimp only;omega)) ?_
    rintro⟨n1,n2⟩ hn1
    try dsimp only at hn1
    refine qab (qdR (by first|omega|assumption|(simp<;>omega))) ?_
    rintro⟨z3,n4⟩ hz3
    try dsimp only at hz3
    refine qaa ?_
    exact⟨n1,0,_,rfl,⟨hn1,by omega⟩,(hz3 hn1).1,fun e=>absurd e c1,fun _=>(hz3 hn1).2⟩
theorem qtB {t:SiteT} {t2:LocT} {t3:Inp} {t4:List Put} {t5:List Pls} {t6:List UInt8} {t7:List UInt8} {t8:List UInt8} (p0:SG t) (p1:LOk t t2) (p2:t3.bytesf.length≤1000000000):W (qeH t t2 t3 t4 t5 t6 t7 t8) (fun r=>∃ an la lg re cy og sp,r.2=(t,{t2 with any:=an,last:=la,lage:=lg,rest:=re,cycle:=cy,offset:=og,splits:=sp,age:=if r.1=true then 0 else min (t2.age+1) 1048576},t3,t4,t5,t6,t7,t8)∧re.length≤2048∧sp.length≤8∧((0≤lg∧lg≤1048576)∧(0≤la∧la<4294967296)∧(an=false→la=0))∧Hrd t t2 t3 r.1 an la lg re cy og sp):=by
 unfold qeH qqs
 obtain⟨⟨q1,q2,q3,q4,q5,q6,q7,q8⟩,q9⟩:=p0.ok.shape
 have td:=p1.told
 have rs:=p1.rest
 have lk:=p1.link
 have ag:=p1.age
 refine qac fun n1 hn1=>?_
 refine qaf (by first|omega|(rw[List.length_drop];omega)|(simp<;>omega)) ?_
 refine qaf (by first|omega|(rw[List.length_drop];omega)|(simp<;>omega)) ?_
 refine qab (qrx (by simp) (by simp;omega)) ?_
 rintro z2 hz2
 have l2:=congrArg List.length hz2;simp at l2
 have ea:z2=hall t2 t3:=by rw[hz2,hn1];rfl
 refine qab (ql6 (qq2 (by rw[List.take_length];omega))) ?_
 rintro⟨z3,n4,n5⟩ hz3
 try dsimp only at hz3
 obtain⟨hz3,e3⟩:=hz3
 rw[List.take_length] at hz3 e3
 refine W_wi (by (rw[List.take_length];omega)) fun n6 hn6=>?_
 rw[List.take_length] at hn6
 refine W_if (fun c3=>?_) fun c3=>?_
 ·refine qaf (by first|omega|(rw[List.length_drop];omega)|(simp<;>omega)) ?_
  refine qaf (by first|omega|(rw[List.length_drop];omega)|(simp<;>omega)) ?_
  refine qab (qeK (by rw[List.length_drop,List.take_length];omega)) ?_
  rintro z36 hz36
  have l36:=congrArg List.length hz36;rw[List.length_drop,List.take_length] at l36
  refine qab (ql6 (ql7 lk (by omega))) ?_
  rintro⟨z37,n38,b39,n40,n41⟩ hz37
  try dsimp only at hz37
  obtain⟨hz37,ez37⟩:=hz37
  refine qaj (fun v=>∃ x44 b51 n54,v=((),((t,x44,t3,t4,t5,t6,t7,t8,()),()),b51,z37,(z37.length:Int),n54,())∧(0≤n54∧n54≤(z37.length:Int))∧(∃ cy og sp,x44={t2 with any:=b39,last:=n40,lage:=n41,rest:=List.take z36.length z36,cycle:=cy,offset:=og,splits:=sp}∧sp.length≤8∧(b51,cy,og,sp)=cfo t (false,t2.cycle,t2.offset,t2.splits) (z37.take n54.toNat))) (fun(_,((_,x44,_,_,_,_,_,_,_),_),b51,_,_,n54,_)=>((z37.length:Int)-n54).toNat) ⟨_,_,_,rfl,by omega,⟨t2.cycle,t2.offset,t2.splits,rfl,td,rfl⟩⟩ (by simp only[NN];omega) ?_
  rintro r42 _ ⟨x44,b51,n54,rfl,hr42_0,hr42_1⟩ ihr42
  obtain⟨cy,og,sp,rfl,hs,hf⟩:=hr42_1
  refine W_if (fun c6=>?_) fun c6=>?_
  ·refine W_ix (by omega) fun x56 hx56=>?_
   have b56:=qap (d:=dflt 8) (n:=n54) hz37.2.1 (by omega)
   rw[← hx56] at b56
   refine qab (ql6 (qcP (by omega))) ?_
   rintro⟨n57,n58,n59,n60,z61⟩ hn57
   try dsimp only at hn57
   obtain⟨hn57,e57⟩:=hn57
   refine W_if (fun c7=>?_) fun c7=>?_
   ·refine qab (ql6 (qil p0 (by dsimp only;omega))) ?_
    rintro⟨n63,x64⟩ hn63
    try dsimp only at hn63
    obtain⟨hn63,e63⟩:=hn63
    refine qah (by omega) fun n65 hn65=>?_
    exact ihr42.use _ ⟨_,_,_,rfl,by omega,⟨x64.cycle,x64.offset,x64.splits,rfl,by omega,(cf_yes e57 c7 e63).trans (qtL hf (by omega) hx56 hn65)⟩⟩ (by dsimp only;omega)
   ·refine qah (by omega) fun n62 hn62=>?_
    exact ihr42.use _ ⟨_,_,_,rfl,by omega,⟨cy,og,sp,rfl,hs,(cf_no e57 c7).trans (qtL hf (by omega) hx56 hn62)⟩⟩ (by dsimp only;omega)
  ·refine qab (qa5 (by dsimp only;omega) (by dsimp only;omega)) ?_
   rintro n55 hn55
   refine W_if (fun c8=>?_) fun c8=>?_
   ·refine qaa ?_
    have hf2:=hf
    rw[show n54.toNat=z37.length by omega,List.take_length] at hf2
    exact⟨b39,n40,n41,_,cy,og,sp,by dsimp only;rw[if_pos (by assumption)],by rw[List.take_length];omega,hs,hz37.2.2.1,(z3,n4,n5),z37,n38,ea▸e3,ez37,by rw[List.take_length,if_pos ⟨by dsimp only;omega,by rw[← ea];dsimp only;omega⟩,hz36,List.take_length,← ea],hf2⟩
   ·refine qaa ?_
    have hf2:=hf
    rw[show n54.toNat=z37.length by omega,List.take_length] at hf2
    exact⟨b39,n40,n41,_,cy,og,sp,by dsimp only;rw[if_neg (by assumption),hn55],by rw[List.take_length];omega,hs,hz37.2.2.1,(z3,n4,n5),z37,n38,ea▸e3,ez37,by rw[List.take_length,if_pos ⟨by dsimp only;omega,by rw[← ea];dsimp only;omega⟩,hz36,List.take_length,← ea],hf2⟩
 ·refine qab (ql6 (ql7 lk (by omega))) ?_
  rintro⟨z7,n8,b9,n10,n11⟩ hz7
  try dsimp only at hz7
  obtain⟨hz7,ez7⟩:=hz7
  refine qaj (fun v=>∃ x14 b21 n24,v=((),((t,x14,t3,t4,t5,t6,t7,t8,()),()),b21,z7,(z7.length:Int),n24,())∧(0≤n24∧n24≤(z7.length:Int))∧(∃ cy og sp,x14={t2 with any:=b9,last:=n10,lage:=n11,rest:=qam,cycle:=cy,offset:=og,splits:=sp}∧sp.length≤8∧(b21,cy,og,sp)=cfo t (false,t2.cycle,t2.offset,t2.splits) (z7.take n24.toNat))) (fun(_,((_,x14,_,_,_,_,_,_,_),_),b21,_,_,n24,_)=>((z7.length:Int)-n24).toNat) ⟨_,_,_,rfl,by omega,⟨t2.cycle,t2.offset,t2.splits,rfl,td,rfl⟩⟩ (by simp only[NN];omega) ?_
  rintro r12 _ ⟨x14,b21,n24,rfl,hr12_0,hr12_1⟩ ihr12
  obtain⟨cy,og,sp,rfl,hs,hf⟩:=hr12_1
  refine W_if (fun c9=>?_) fun c9=>?_
  ·refine W_ix (by omega) fun x26 hx26=>?_
   have b26:=qap (d:=dflt 8) (n:=n24) hz7.2.1 (by omega)
   rw[← hx26] at b26
   refine qab (ql6 (qcP (by omega))) ?_
   rintro⟨n27,n28,n29,n30,z31⟩ hn27
   try dsimp only at hn27
   obtain⟨hn27,e27⟩:=hn27
   refine W_if (fun c10=>?_) fun c10=>?_
   ·refine qab (ql6 (qil p0 (by dsimp only;omega))) ?_
    rintro⟨n33,x34⟩ hn33
    try dsimp only at hn33
    obtain⟨hn33,e33⟩:=hn33
    refine qah (by omega) fun n35 hn35=>?_
    exact ihr12.use _ ⟨_,_,_,rfl,by omega,⟨x34.cycle,x34.offset,x34.splits,rfl,by omega,(cf_yes e27 c10 e33).trans (qtL hf (by omega) hx26 hn35)⟩⟩ (by dsimp only;omega)
   ·refine qah (by omega) fun n32 hn32=>?_
    exact ihr12.use _ ⟨_,_,_,rfl,by omega,⟨cy,og,sp,rfl,hs,(cf_no e27 c10).trans (qtL hf (by omega) hx26 hn32)⟩⟩ (by dsimp only;omega)
  ·refine qab (qa5 (by dsimp only;omega) (by dsimp only;omega)) ?_
   rintro n25 hn25
   refine W_if (fun c11=>?_) fun c11=>?_
   ·refine qaa ?_
    have hf2:=hf
    rw[show n24.toNat=z7.length by omega,List.take_length] at hf2
    exact⟨b9,n10,n11,_,cy,og,sp,by dsimp only;rw[if_pos (by assumption)],by simp,hs,hz7.2.2.1,(z3,n4,n5),z7,n8,ea▸e3,ez7,by rw[if_neg (fun h=>c3 (by rw[← ea] at h;dsimp only at h;omega))],hf2⟩
   ·refine qaa ?_
    have hf2:=hf
    rw[show n24.toNat=z7.length by omega,List.take_length] at hf2
    exact⟨b9,n10,n11,_,cy,og,sp,by dsimp only;rw[if_neg (by assumption),hn25],by simp,hs,hz7.2.2.1,(z3,n4,n5),z7,n8,ea▸e3,ez7,by rw[if_neg (fun h=>c3 (by rw[← ea] at h;dsimp only at h;omega))],hf2⟩
theorem q76 {t:SiteT} {t2:LocT} {t3:Inp} {t4:List Put} {t5:List Pls} {t6:List UInt8} {t7:List UInt8} {t8:List UInt8} (p0:SG t) (p1:LOk t t2) (p2:0≤t3.eyesf∧t3.eyesf<4294967296):W (qqt t t2 t3 t4 t5 t6 t7 t8) (fun r=>∃ pu ey ga ca wa,r=(t,{t2 with pulses:=pu,eyes:=ey,gaps:=ga,calls:=ca},t3,t4,wa,t6,t7,t8)∧pu.length=t.eyes.length∧ga.length=t.eyes.length∧wa.length=t.eyes.length∧ey.length≤1000):=by
 unfold qqt qvP
 obtain⟨⟨q1,q2,q3,q4,q5,q6,q7,q8⟩,q9⟩:=p0.ok.shape
 have lp:=p1.pulses
 have lg:=p1.gaps
 have le:=p1.eyes
 have ln:=p1.now.1
 refine qab (qhu (by first|omega|assumption|(simp<;>omega))) ?_
 rintro z1 hz1
 have l1:=congrArg List.length hz1
 refine qab (qhu (by first|omega|assumption|(simp<;>omega))) ?_
 rintro z2 hz2
 have l2:=congrArg List.length hz2
 refine qab (qqz (by first|omega|assumption|(simp<;>omega))) ?_
 rintro z3 hz3
 have l3:=congrArg List.length hz3
 refine W_rs (by first|rfl|omega|(simp<;>omega)) ?_
 refine W_rs (by first|rfl|omega|(simp<;>omega)) ?_
 refine qaj (fun v=>∃ z5 z6 n39 n41,v=((z5,z6,()),((t,t2.disk,t2.seen,t2.start,t2.flashed,t2.mode,t2.well,t2.latched,t2.phase,t2.since,t2.any,t2.last,t2.lage,t2.rest,t2.cycle,t2.offset,t2.splits,t2.age,t2.eyes,t2.calls,t2.wrong,t2.tick,t2.greens,t2.busy,t2.came,t2.sent,t3,t4,(List.take z1.length z1),t6,t7,t8,()),()),n39,(z2.length:Int),n41,())∧(0≤n41∧n41≤(z2.length:Int))∧(z5.length=z2.length)∧(z6.length=z2.length)∧(0≤n39∧n39<4294967296)) (fun((z5,z6,_),((_,_,_,_,_,_,_,_,_,_,_,_,_,_,_,_,_,_,_,_,_,_,_,_,_,_,_,_,_,_,_,_,_),_),n39,_,n41,_)=>((z2.length:Int)-n41).toNat) ⟨_,_,_,_,rfl,by omega,rfl,by omega,by omega⟩ (by simp only[NN];omega) ?_
 rintro r4 _ ⟨z5,z6,n39,n41,rfl,hr4_0,hr4_1,hr4_2,hr4_3⟩ ihr4
 refine W_if (fun c3=>?_) fun c3=>?_
 ·refine W_rb (by first|omega|(rw[List.length_drop];omega)|(simp<;>omega)) ?_
  refine qaf (by first|omega|(rw[List.length_drop];omega)|(simp<;>omega)) ?_
  refine qaf (by first|omega|(rw[List.length_drop];omega)|(simp<;>omega)) ?_
  refine qac fun n50 hn50=>?_
  refine qac fun n51 hn51=>?_
  refine qab (q1S) ?_
  rintro⟨n52,x53⟩ hn52
  try dsimp only at hn52
  refine W_rb (by first|omega|(rw[List.length_drop];omega)|(simp<;>omega)) ?_
  refine qaf (by first|omega|(rw[List.length_drop];omega)|(simp<;>omega)) ?_
  refine qac fun z54 hz54=>?_
  have lz54:=congrArg List.length hz54;try simp at lz54
  have m54:z54.length=z5.length:=by rw[hz54,List.length_set]
  refine W_rb (by first|omega|(rw[List.length_drop];omega)|(simp<;>omega)) ?_
  refine qaf (by first|omega|(rw[List.length_drop];omega)|(simp<;>omega)) ?_
  refine W_rb (by first|omega|(rw[List.length_drop];omega)|(simp<;>omega)) ?_
  refine qaf (by first|omega|(rw[List.length_drop];omega)|(simp<;>omega)) ?_
  refine qab (q7I) ?_
  rintro⟨n55,x56⟩ hn55
  try dsimp only at hn55
  refine W_rb (by first|omega|(rw[List.length_drop];omega)|(simp<;>omega)) ?_
  refine qaf (by first|omega|(rw[List.length_drop];omega)|(simp<;>omega)) ?_
  refine qac fun z57 hz57=>?_
  have lz57:=congrArg List.length hz57;try simp at lz57
  have m57:z57.length=z6.length:=by rw[hz57,List.length_set]
  refine W_rb (by first|omega|(rw[List.length_drop];omega)|(simp<;>omega)) ?_
  refine qaf (by first|omega|(rw[List.length_drop];omega)|(simp<;>omega)) ?_
  refine W_if (fun c17=>?_) fun c17=>?_
  ·refine qaf (by first|omega|(rw[List.length_drop];omega)|(simp<;>omega)) ?_
   refine qac fun n59 hn59=>?_
   refine qac fun n60 hn60=>?_
   have u60:=qzD .or n39 n59
   rw[← hn60] at u60
   refine qah (by omega) fun n61 hn61=>?_
   refine W_rs (by first|rfl|omega|(simp<;>omega)) ?_
   refine W_rs (by first|rfl|omega|(simp<;>omega)) ?_
   exact ihr4.use _ ⟨_,_,_,_,rfl,by first|omega|(simp<;>omega),by first|omega|(simp<;>omega),by first|omega|(simp<;>omega),by first|omega|(simp<;>omega)⟩ (by dsimp only;omega)
  ·refine qah (by omega) fun n58 hn58=>?_
   refine W_rs (by first|rfl|omega|(simp<;>omega)) ?_
   refine W_rs (by first|rfl|omega|(simp<;>omega)) ?_
   exact ihr4.use _ ⟨_,_,_,_,rfl,by first|omega|(simp<;>omega),by first|omega|(simp<;>omega),by first|omega|(simp<;>omega),by first|omega|(simp<;>omega)⟩ (by dsimp only;omega)
 ·refine qab (eyeAll_w p0 le hr4_3) ?_
  rintro⟨z42,n43⟩ hz42
  try dsimp only at hz42
  refine qab (ql5 (by first|omega|assumption|(simp<;>omega)) (by first|omega|assumption|(simp<;>omega))) ?_
  rintro⟨b44,n45⟩ hb44
  try dsimp only at hb44
  refine W_if (fun c23=>?_) fun c23=>?_
  ·refine qab (qtJ (by first|omega|assumption|(simp<;>omega)) (by first|omega|assumption|(simp<;>omega))) ?_
   rintro⟨n48,n49⟩ hn48
   try dsimp only at hn48
   refine qaa ?_
   exact⟨_,_,_,_,_,rfl,by rw[List.take_length];omega,by rw[List.take_length];omega,by rw[List.take_length];omega,hz42.2⟩
  ·refine qab (qtJ (by first|omega|assumption|(simp<;>omega)) (by first|omega|assumption|(simp<;>omega))) ?_
   rintro⟨n46,n47⟩ hn46
   try dsimp only at hn46
   refine qaa ?_
   exact⟨_,_,_,_,_,rfl,by rw[List.take_length];omega,by rw[List.take_length];omega,by rw[List.take_length];omega,hz42.2⟩
end Go.Proofs.YtcdppfnjidlknaaGreatDoor
namespace Go.Proofs.YtcdppfnjidlknaaGreatDoor
open Go Go.Eng Go.Proofs Go.Wp
theorem app_La {z z':List UInt8} {w:List SeenT} {a n m:Int} (h:FA (fun i=>La z i=As w i) n) (g:0≤n∧(z.length:Int)=n) (e:m=n+1) (ez:z'=List.take z.length z++[UInt8.ofNat a.toNat]) (ea:a=As w n.toNat) (b:0≤a∧a<256):FA (fun i=>La z' i=As w i) m:=by
  subst ez;subst ea
  rw[List.take_length]
  intro k hk
  unfold La
  by_cases c:(k:Int)=n
  · subst c
    rw[List.getD_eq_getElem?_getD,List.getElem?_append_right (by omega),show k-z.length=0 by omega]
    simp only[List.getElem?_cons_zero,Option.getD_some]
    rw[UInt8.toNat_ofNat']
    simp only[Int.toNat_natCast] at b ⊢
    omega
  · have:=h k (by omega)
    unfold La at this
    rw[List.getD_eq_getElem?_getD,List.getElem?_append_left (by omega),← List.getD_eq_getElem?_getD];exact this
theorem Cn.set {l l':List Int} {n k:Nat} {a:Int} (h:Cn l n) (e:l'=l.set k a) (b:0≤a∧a≤1048576):Cn l' n:=by
  subst e
  refine⟨by rw[List.length_set];exact h.1,fun x hx=>?_⟩
  rcases List.mem_or_eq_of_mem_set hx with g|g
  · exact h.2 x g
  · subst g;exact b
theorem qby.le4 {s:SiteT} {z:List SeenT} {st:Int} {fl:Bool} (h:qby s z st fl) {k:Nat} (hk:(k:Int)<s.groups.length):As z k≤4:=by
  cases fl
  · have:=(h.2.2.2 rfl).1 k hk;omega
  · have:=h.2.2.1 rfl k hk;dsimp only at this;omega
theorem q1G {t:SiteT} {t2:LocT} {t3:Inp} {t4:List Put} {t5:List Pls} {t6:List UInt8} {t7:List UInt8} {t8:List UInt8} (p0:SG t) (p1:LOk t t2) (p2:t3.backf.length≤1000000000):W (qfE t t2 t3 t4 t5 t6 t7 t8) (fun r=>∃ wr f1 f2 f3 f4 k1 k2 k3 w,r=(t,{t2 with wrong:=wr},t3,t4,t5,t6,t7,t8,f1,f2,f3,f4,k1,k2,k3)∧(w.length=t.groups.length∧FA (fun i=>La w i=As t2.seen i) t.groups.length)∧(t3.backf≠[]∧t3.backf≠w→wr=min (t2.wrong+1) 1048576)∧(¬ (t3.backf≠[]∧t3.backf≠w)→wr=0)∧(f1=true→t2.age<t.watch)∧(f2=true→0<k3.length)∧(f4=false↔t.feed≤wr)∧(k3.length≤8∧∀ p∈k3,PlB p)):=by
 unfold qfE qcx
 obtain⟨⟨q1,q2,q3,q4,q5,q6,q7,q8⟩,q9⟩:=p0.ok.shape
 have ln:=p1.now.1
 have wr:=p1.wrong
 have dk:=p1.disk
 have ey:=p1.eyes
 refine qaj (fun v=>∃ z2 n20,v=((z2,()),((t,t2,t3,t4,t5,t6,t7,t8,()),(false,false,false,false,()),((0:Int),(0:Int),qaJ,()),()),t2.seen,(t2.seen.length:Int),n20,())∧(0≤n20∧n20≤(t2.seen.length:Int))∧((z2.length:Int)=n20)∧(FA (fun i=>La z2 i=As t2.seen i) n20)) (fun((z2,_),((_,_,_,_,_,_,_,_,_),(_,_,_,_,_),(_,_,_,_),_),_,_,n20,_)=>((t2.seen.length:Int)-n20).toNat) ⟨_,_,rfl,by omega,by simp,FA.zero⟩ (by simp only[NN];omega) ?_
 rintro r1 _ ⟨z2,n20,rfl,hr1_0,hr1_1,hr1_2⟩ ihr1
 refine W_if (fun c1=>?_) fun c1=>?_
 ·refine W_ix (by omega) fun x76 hx76=>?_
  have g76:=qap (d:=dflt 20) (n:=n20) p1.now.mem (by omega)
  rw[← hx76] at g76
  refine W_rm (by first|omega|(rw[List.length_drop];omega)|(simp<;>omega)) ?_
  refine qac fun z77 hz77=>?_
  have lz77:=congrArg List.length hz77;try simp at lz77
  refine qah (by omega) fun n78 hn78=>?_
  refine W_rs (by first|rfl|omega|(simp<;>omega)) ?_
  exact ihr1.use _ ⟨_,_,rfl,by omega,by omega,app_La hr1_2 (by omega) hn78 hz77 (by rw[hx76];rfl) g76⟩ (by dsimp only;omega)
 ·rw[List.take_length]
  refine qab (q5o p0 ⟨by omega,fun k hk=>by have h1:=hr1_2 k (by omega);have h2:=p1.now.le4 (k:=k) (by omega);dsimp only at h1 ⊢;omega⟩ p2 wr) ?_
  rintro⟨n21,n22⟩ hn21
  try dsimp only at hn21
  refine W_if (fun c4=>?_) fun c4=>?_
  ·refine qab (qa5 (by omega) (by omega)) ?_
   rintro n49 hn49
   refine qab (qjW p0 (by omega)) ?_
   rintro⟨b50,n51⟩ hb50
   try dsimp only at hb50
   refine qab (qeN (by first|omega|assumption|(simp<;>omega))) ?_
   rintro⟨n52,n53,n54,z55⟩ hn52
   try dsimp only at hn52
   refine qab (qqB (by first|omega|assumption|(simp<;>omega)) (by first|omega|assumption|(simp<;>omega))) ?_
   rintro⟨b56,n57⟩ hb56
   try dsimp only at hb56
   refine qaz (fun(_,((x61,x62,x63,z64,z65,z66,z67,z68,_),(b69,b70,b71,b72,_),(n73,n74,z75,_),_),_)=>t=x61∧{t2 with wrong:=n49}=x62∧t3=x63∧t4=z64∧t5=z65∧t6=z66∧t7=z67∧t8=z68∧(bif bif !t3.rotf then n52==0 else false then decide ((z55.length:Int) > 0) else false)=b70∧b56=b71∧(!b50)=b72∧n53=n73∧n54=n74∧z55=z75∧((b69=true→t2.age<t.watch))) (fun J58 hJ58=>?_) ?_
   ·refine W_sm ?_
    refine qab (qqC) ?_
    rintro b59 hb59
    refine W_sm ?_
    exact hJ58.use _ (by dsimp only;exact⟨rfl,rfl,rfl,rfl,rfl,rfl,rfl,rfl,rfl,rfl,rfl,rfl,rfl,rfl,by intro h;cases b59<;>simp at h;exact h⟩)
   ·rintro⟨_,⟨⟨x61,x62,x63,z64,z65,z66,z67,z68,_⟩,⟨b69,b70,b71,b72,_⟩,⟨n73,n74,z75,_⟩,_⟩,_⟩ kJ58;dsimp only at kJ58
    obtain⟨rfl,rfl,rfl,rfl,rfl,rfl,rfl,rfl,rfl,rfl,rfl,rfl,rfl,rfl,kJ58⟩:=kJ58
    refine qaa ?_
    simp only[Prod.mk.injEq] at hb50
    exact⟨_,b69,_,_,_,_,_,_,z2,rfl,⟨by omega,fun k hk=>hr1_2 k (by omega)⟩,fun _=>hn49,fun h=>absurd (hn21.2 (by assumption)) h,kJ58,fun h=>by simp at h;omega,by rw[hb50.1];simp,hn52.1⟩
  ·refine qab (qjW p0 (by have e0:=Classical.not_not.1 (show ¬ ¬ n22=0 by assumption);by_cases h:t3.backf≠[]∧t3.backf≠z2;have:=(hn21.1 e0).1 h;omega;have:=(hn21.1 e0).2 h;omega)) ?_
   rintro⟨b23,n24⟩ hb23
   try dsimp only at hb23
   refine qab (qeN (by first|omega|assumption|(simp<;>omega))) ?_
   rintro⟨n25,n26,n27,z28⟩ hn25
   try dsimp only at hn25
   refine qab (qqB (by first|omega|assumption|(simp<;>omega)) (by first|omega|assumption|(simp<;>omega))) ?_
   rintro⟨b29,n30⟩ hb29
   try dsimp only at hb29
   refine qaz (fun(_,((x34,x35,x36,z37,z38,z39,z40,z41,_),(b42,b43,b44,b45,_),(n46,n47,z48,_),_),_)=>t=x34∧{t2 with wrong:=n21}=x35∧t3=x36∧t4=z37∧t5=z38∧t6=z39∧t7=z40∧t8=z41∧(bif bif !t3.rotf then n25==0 else false then decide ((z28.length:Int) > 0) else false)=b43∧b29=b44∧(!b23)=b45∧n26=n46∧n27=n47∧z28=z48∧((b42=true→t2.age<t.watch))) (fun J31 hJ31=>?_) ?_
   ·refine W_sm ?_
    refine qab (qqC) ?_
    rintro b32 hb32
    refine W_sm ?_
    exact hJ31.use _ (by dsimp only;exact⟨rfl,rfl,rfl,rfl,rfl,rfl,rfl,rfl,rfl,rfl,rfl,rfl,rfl,rfl,by intro h;cases b32<;>simp at h;exact h⟩)
   ·rintro⟨_,⟨⟨x34,x35,x36,z37,z38,z39,z40,z41,_⟩,⟨b42,b43,b44,b45,_⟩,⟨n46,n47,z48,_⟩,_⟩,_⟩ kJ31;dsimp only at kJ31
    obtain⟨rfl,rfl,rfl,rfl,rfl,rfl,rfl,rfl,rfl,rfl,rfl,rfl,rfl,rfl,kJ31⟩:=kJ31
    refine qaa ?_
    simp only[Prod.mk.injEq] at hb23
    have e0:n22=0:=Classical.not_not.1 (by assumption)
    exact⟨_,b42,_,_,_,_,_,_,z2,rfl,⟨by omega,fun k hk=>hr1_2 k (by omega)⟩,(hn21.1 e0).1,(hn21.1 e0).2,kJ31,fun h=>by simp at h;omega,by rw[hb23.1];simp,hn25.1⟩
theorem q5g {t:SiteT} {t2:LocT} {t3:Inp} {t4:List Put} {t5:List Pls} {t6:List UInt8} {t7:List UInt8} {t8:List UInt8} (p0:SG t) (p1:LOk t t2) (p2:t4.length≤1000∧∀ p∈t4,p.data.length=64):W (qjI t t2 t3 t4 t5 t6 t7 t8) (fun r=>∃ x z st fl,r=(t,{x with seen:=z,start:=st,flashed:=fl,tick:=min (t2.tick+1) 1073741824,sent:=t2.sent},t3,t4,t5,t6,List.replicate t.groups.length (UInt8.ofNat 4),t8)∧LNew t x∧qtE t t2.seen t2.start t2.flashed (List.replicate t.groups.length (UInt8.ofNat 4)) z st fl):=by
 unfold qjI qdN
 obtain⟨⟨q1,q2,q3,q4,q5,q6,q7,q8⟩,q9⟩:=p0.ok.shape
 have dk:=p1.disk
 have tk:=p1.tick
 have nf:qd1 t t2.seen t2.start t2.flashed (List.replicate t.groups.length (UInt8.ofNat 4)):=⟨by simp,.inl fun k hk=>rep4 (by simpa using hk)⟩
 refine qac fun n1 hn1=>?_
 refine qac fun n2 hn2=>?_
 refine qac fun n3 hn3=>?_
 refine qac fun n4 hn4=>?_
 refine W_if (fun c1=>?_) fun c1=>?_
 ·refine qaz (fun(_,((x51,x52,x53,z54,z55,z56,z57,z58,_),(z59,_),_),_)=>t=x51∧t2=x52∧t3=x53∧t4=z54∧t5=z55∧t6=z56∧t7=z57∧t8=z58∧(z59.length≤1000000)) (fun J46 hJ46=>?_) ?_
  ·refine W_sm ?_
   refine qab (qjY dk p2 (by omega)) ?_
   rintro⟨z47,n48⟩ hz47
   try dsimp only at hz47
   exact hJ46.use _ (by dsimp only;exact⟨rfl,rfl,rfl,rfl,rfl,rfl,rfl,rfl,by first|trivial|omega⟩)
  ·rintro⟨_,⟨⟨x51,x52,x53,z54,z55,z56,z57,z58,_⟩,⟨z59,_⟩,_⟩,_⟩ kJ46;dsimp only at kJ46
   obtain⟨rfl,rfl,rfl,rfl,rfl,rfl,rfl,rfl,kJ46⟩:=kJ46
   refine qab (qeO p0 kJ46) ?_
   rintro x60 hx60
   refine qab (qii (by first|omega|assumption|(simp<;>omega))) ?_
   rintro⟨z61,x62,x63,x64,z65,z66,z67,z68,z69⟩ hz61
   try dsimp only at hz61
   simp only[Prod.mk.injEq] at hz61;obtain⟨rfl,rfl,rfl,rfl,rfl,rfl,rfl,rfl,rfl⟩:=hz61
   refine qab (qdP p0 p1.now (by simp;omega)) ?_
   rintro⟨n70,n71,z72,n73,b74⟩ hn70
   try dsimp only at hn70
   refine qaz (fun(_,((x79,x80,x81,z82,z83,z84,z85,z86,_),_),_)=>t=x79∧t3=x81∧t4=z82∧t5=z83∧t6=z84∧(List.replicate t.groups.length (UInt8.ofNat 4))=z85∧t8=z86∧(x80={x60 with seen:=z72,start:=n73,flashed:=b74,tick:=min (t2.tick+1) 1073741824,sent:=t2.sent})) (fun J75 hJ75=>?_) ?_
   ·refine W_sm ?_
    refine qab (qa5 tk (by omega)) ?_
    rintro n76 hn76
    refine W_sm ?_
    exact hJ75.use _ (by dsimp only;exact⟨rfl,rfl,rfl,rfl,rfl,rfl,rfl,by rw[hn76]⟩)
   ·rintro⟨_,⟨⟨x79,x80,x81,z82,z83,z84,z85,z86,_⟩,_⟩,_⟩ kJ75;dsimp only at kJ75
    obtain⟨rfl,rfl,rfl,rfl,rfl,rfl,rfl,kJ75⟩:=kJ75
    refine qaa ?_
    subst kJ75;exact⟨_,_,_,_,rfl,hx60,hn70.2.2.1 (hn70.2.1.2 nf)⟩
 ·refine qaz (fun(_,((x10,x11,x12,z13,z14,z15,z16,z17,_),(z18,_),_),_)=>t=x10∧t2=x11∧t3=x12∧t4=z13∧t5=z14∧t6=z15∧t7=z16∧t8=z17∧(z18.length≤1000000)) (fun J5 hJ5=>?_) ?_
  ·refine W_sm ?_
   refine qab (qjY dk p2 (by omega)) ?_
   rintro⟨z6,n7⟩ hz6
   try dsimp only at hz6
   exact hJ5.use _ (by dsimp only;exact⟨rfl,rfl,rfl,rfl,rfl,rfl,rfl,rfl,by first|trivial|omega⟩)
  ·rintro⟨_,⟨⟨x10,x11,x12,z13,z14,z15,z16,z17,_⟩,⟨z18,_⟩,_⟩,_⟩ kJ5;dsimp only at kJ5
   obtain⟨rfl,rfl,rfl,rfl,rfl,rfl,rfl,rfl,kJ5⟩:=kJ5
   refine qab (qeO p0 kJ5) ?_
   rintro x19 hx19
   refine qab (qii (by first|omega|assumption|(simp<;>omega))) ?_
   rintro⟨z20,x21,x22,x23,z24,z25,z26,z27,z28⟩ hz20
   try dsimp only at hz20
   simp only[Prod.mk.injEq] at hz20;obtain⟨rfl,rfl,rfl,rfl,rfl,rfl,rfl,rfl,rfl⟩:=hz20
   refine qab (qdP p0 p1.now (by simp;omega)) ?_
   rintro⟨n29,n30,z31,n32,b33⟩ hn29
   try dsimp only at hn29
   refine qaz (fun(_,((x38,x39,x40,z41,z42,z43,z44,z45,_),_),_)=>t=x38∧t3=x40∧t4=z41∧t5=z42∧t6=z43∧(List.replicate t.groups.length (UInt8.ofNat 4))=z44∧t8=z45∧(x39={x19 with seen:=z31,start:=n32,flashed:=b33,tick:=min (t2.tick+1) 1073741824,sent:=t2.sent})) (fun J34 hJ34=>?_) ?_
   ·refine W_sm ?_
    refine qab (qa5 tk (by omega)) ?_
    rintro n35 hn35
    refine W_sm ?_
    exact hJ34.use _ (by dsimp only;exact⟨rfl,rfl,rfl,rfl,rfl,rfl,rfl,by rw[hn35]⟩)
   ·rintro⟨_,⟨⟨x38,x39,x40,z41,z42,z43,z44,z45,_⟩,_⟩,_⟩ kJ34;dsimp only at kJ34
    obtain⟨rfl,rfl,rfl,rfl,rfl,rfl,rfl,kJ34⟩:=kJ34
    refine qaa ?_
    subst kJ34;exact⟨_,_,_,_,rfl,hx19,hn29.2.2.1 (hn29.2.1.2 nf)⟩
theorem qq3 {t:SiteT} {t2:LocT} {t3:Inp} {t4:List Put} {t5:List Pls} {t6:List UInt8} {t7:List UInt8} {t8:List UInt8} (p0:SG t) (p1:LOk t t2) (p2:t5.length=t.eyes.length):W (qjJ t t2 t3 t4 t5 t6 t7 t8) (fun r=>∃ gr bu ca,r=(t,t2.disk,t2.seen,t2.start,t2.flashed,t2.mode,t2.well,t2.latched,t2.phase,t2.since,t2.any,t2.last,t2.lage,t2.rest,t2.cycle,t2.offset,t2.splits,t2.age,t2.pulses,t2.eyes,t2.gaps,t2.calls,t2.wrong,t2.tick,t2.sent,t3,t4,t5,t6,t7,t8,gr,bu,ca)∧Cn gr t.phases.length∧Cn bu t.phases.length∧Cn ca t.phases.length):=by
 unfold qjJ qlw
 obtain⟨⟨q1,q2,q3,q4,q5,q6,q7,q8⟩,q9⟩:=p0.ok.shape
 have lp:=p1.pulses
 have ln:=p1.now.1
 have cg:=p1.greens.1
 have cb:=p1.busy.1
 have cc:=p1.came.1
 refine qab (qfL (by first|omega|assumption|(simp<;>omega))) ?_
 rintro z1 hz1
 refine qab (qfL (by first|omega|assumption|(simp<;>omega))) ?_
 rintro z2 hz2
 refine qab (qfL (by first|omega|assumption|(simp<;>omega))) ?_
 rintro z3 hz3
 refine W_rs (by first|rfl|omega|(simp<;>omega)) ?_
 refine W_rs (by first|rfl|omega|(simp<;>omega)) ?_
 refine W_rs (by first|rfl|omega|(simp<;>omega)) ?_
 refine qaj (fun v=>∃ z5 z6 z7 n40,v=((z5,z6,z7,()),((t,t2.disk,t2.seen,t2.start,t2.flashed,t2.mode,t2.well,t2.latched,t2.phase,t2.since,t2.any,t2.last,t2.lage,t2.rest,t2.cycle,t2.offset,t2.splits,t2.age,t2.pulses,t2.eyes,t2.gaps,t2.calls,t2.wrong,t2.tick,t2.sent,t3,t4,t5,t6,t7,t8,()),()),(t.phases.length:Int),n40,())∧(0≤n40∧n40≤(t.phases.length:Int))∧(Cn z5 t.phases.length)∧(Cn z6 t.phases.length)∧(Cn z7 t.phases.length)) (fun((z5,z6,z7,_),((_,_,_,_,_,_,_,_,_,_,_,_,_,_,_,_,_,_,_,_,_,_,_,_,_,_,_,_,_,_,_,_),_),_,n40,_)=>((t.phases.length:Int)-n40).toNat) ⟨_,_,_,_,rfl,by omega,by rw[hz1];exact p1.greens,by rw[hz2];exact p1.busy,by rw[hz3];exact p1.came⟩ (by simp only[NN];omega) ?_
 rintro r4 _ ⟨z5,z6,z7,n40,rfl,hr4_0,hr4_1,hr4_2,hr4_3⟩ ihr4
 have m5:=hr4_1.1
 have m6:=hr4_2.1
 have m7:=hr4_3.1
 refine W_if (fun c4=>?_) fun c4=>?_
 ·refine qab (ql5 (by first|omega|assumption|(simp<;>omega)) (by first|omega|assumption|(simp<;>omega))) ?_
  rintro⟨b41,n42⟩ hb41
  try dsimp only at hb41
  refine W_if (fun c5=>?_) fun c5=>?_
  ·refine qah (by omega) fun n105 hn105=>?_
   refine W_rs (by first|rfl|omega|(simp<;>omega)) ?_
   refine W_rs (by first|rfl|omega|(simp<;>omega)) ?_
   refine W_rs (by first|rfl|omega|(simp<;>omega)) ?_
   exact ihr4.use _ ⟨_,_,_,_,rfl,by omega,hr4_1,hr4_2,hr4_3⟩ (by dsimp only;omega)
  ·refine W_rs (by first|rfl|omega|(simp<;>omega)) ?_
   refine W_rs (by first|rfl|omega|(simp<;>omega)) ?_
   refine W_rs (by first|rfl|omega|(simp<;>omega)) ?_
   refine qaj (fun v=>∃ z46 b79 n84,v=((z5,z6,z46,()),((t,t2.disk,t2.seen,t2.start,t2.flashed,t2.mode,t2.well,t2.latched,t2.phase,t2.since,t2.any,t2.last,t2.lage,t2.rest,t2.cycle,t2.offset,t2.splits,t2.age,t2.pulses,t2.eyes,t2.gaps,t2.calls,t2.wrong,t2.tick,t2.sent,t3,t4,t5,t6,t7,t8,()),()),n40,b79,(t.phases.length:Int),n40,t.eyes,(t.eyes.length:Int),n84,())∧(0≤n84∧n84≤(t.eyes.length:Int))∧(Cn z46 t.phases.length)) (fun((_,_,z46,_),((_,_,_,_,_,_,_,_,_,_,_,_,_,_,_,_,_,_,_,_,_,_,_,_,_,_,_,_,_,_,_,_),_),_,b79,_,_,_,_,n84,_)=>((t.eyes.length:Int)-n84).toNat) ⟨_,_,_,rfl,by omega,hr4_3⟩ (by simp only[NN];omega) ?_
   rintro r43 _ ⟨z46,b79,n84,rfl,hr43_0,hr43_1⟩ ihr43
   have m8:=hr43_1.1
   refine W_if (fun c12=>?_) fun c12=>?_
   ·refine W_ix (by omega) fun x96 hx96=>?_
    refine qaf (by first|omega|(rw[List.length_drop];omega)|(simp<;>omega)) ?_
    refine qac fun x97 hx97=>?_
    refine W_if (fun c14=>?_) fun c14=>?_
    ·refine W_ix (by omega) fun x99 hx99=>?_
     refine W_if (fun c15=>?_) fun c15=>?_
     ·refine W_rb (by first|omega|(rw[List.length_drop];omega)|(simp<;>omega)) ?_
      refine qaf (by first|omega|(rw[List.length_drop];omega)|(simp<;>omega)) ?_
      refine qac fun n101 hn101=>?_
      have gn101:=qap (d:=(0:Int)) hr43_1.2 (n:=n40) (by have:=hr43_1.1;omega)
      rw[Nat.zero_add] at hn101;rw[← hn101] at gn101
      refine qab (qa5 (by first|omega|assumption|(simp<;>omega)) (by first|omega|assumption|(simp<;>omega))) ?_
      rintro n102 hn102
      refine W_rb (by first|omega|(rw[List.length_drop];omega)|(simp<;>omega)) ?_
      refine qaf (by first|omega|(rw[List.length_drop];omega)|(simp<;>omega)) ?_
      refine qac fun z103 hz103=>?_
      have lz103:=congrArg List.length hz103;try simp at lz103
      have s103:=hr43_1.set hz103 (by omega)
      have m8:=s103.1
      refine qah (by omega) fun n104 hn104=>?_
      refine W_rs (by first|rfl|omega|(simp<;>omega)) ?_
      refine W_rs (by first|rfl|omega|(simp<;>omega)) ?_
      refine W_rs (by first|rfl|omega|(simp<;>omega)) ?_
      exact ihr43.use _ ⟨_,_,_,rfl,by omega,s103⟩ (by dsimp only;omega)
     ·refine qah (by omega) fun n100 hn100=>?_
      refine W_rs (by first|rfl|omega|(simp<;>omega)) ?_
      refine W_rs (by first|rfl|omega|(simp<;>omega)) ?_
      refine W_rs (by first|rfl|omega|(simp<;>omega)) ?_
      exact ihr43.use _ ⟨_,_,_,rfl,by omega,hr43_1⟩ (by dsimp only;omega)
    ·refine qah (by omega) fun n98 hn98=>?_
     refine W_rs (by first|rfl|omega|(simp<;>omega)) ?_
     refine W_rs (by first|rfl|omega|(simp<;>omega)) ?_
     refine W_rs (by first|rfl|omega|(simp<;>omega)) ?_
     exact ihr43.use _ ⟨_,_,_,rfl,by omega,hr43_1⟩ (by dsimp only;omega)
   ·refine W_if (fun c29=>?_) fun c29=>?_
    ·refine W_rb (by first|omega|(rw[List.length_drop];omega)|(simp<;>omega)) ?_
     refine qaf (by first|omega|(rw[List.length_drop];omega)|(simp<;>omega)) ?_
     refine qac fun n89 hn89=>?_
     have gn89:=qap (d:=(0:Int)) hr4_2.2 (n:=n40) (by have:=hr4_2.1;omega)
     rw[Nat.zero_add] at hn89;rw[← hn89] at gn89
     refine qab (qa5 (by first|omega|assumption|(simp<;>omega)) (by first|omega|assumption|(simp<;>omega))) ?_
     rintro n90 hn90
     refine W_rb (by first|omega|(rw[List.length_drop];omega)|(simp<;>omega)) ?_
     refine qaf (by first|omega|(rw[List.length_drop];omega)|(simp<;>omega)) ?_
     refine qac fun z91 hz91=>?_
     have lz91:=congrArg List.length hz91;try simp at lz91
     have s91:=hr4_2.set hz91 (by omega)
     have m8:=s91.1
     refine W_rb (by first|omega|(rw[List.length_drop];omega)|(simp<;>omega)) ?_
     refine qaf (by first|omega|(rw[List.length_drop];omega)|(simp<;>omega)) ?_
     refine qac fun n92 hn92=>?_
     have gn92:=qap (d:=(0:Int)) hr4_1.2 (n:=n40) (by have:=hr4_1.1;omega)
     rw[Nat.zero_add] at hn92;rw[← hn92] at gn92
     refine qab (qa5 (by first|omega|assumption|(simp<;>omega)) (by first|omega|assumption|(simp<;>omega))) ?_
     rintro n93 hn93
     refine W_rb (by first|omega|(rw[List.length_drop];omega)|(simp<;>omega)) ?_
     refine qaf (by first|omega|(rw[List.length_drop];omega)|(simp<;>omega)) ?_
     refine qac fun z94 hz94=>?_
     have lz94:=congrArg List.length hz94;try simp at lz94
     have s94:=hr4_1.set hz94 (by omega)
     have m9:=s94.1
     refine qah (by omega) fun n95 hn95=>?_
     refine W_rs (by first|rfl|omega|(simp<;>omega)) ?_
     refine W_rs (by first|rfl|omega|(simp<;>omega)) ?_
     refine W_rs (by first|rfl|omega|(simp<;>omega)) ?_
     exact ihr4.use _ ⟨_,_,_,_,rfl,by omega,s94,s91,hr43_1⟩ (by dsimp only;omega)
    ·refine W_rb (by first|omega|(rw[List.length_drop];omega)|(simp<;>omega)) ?_
     refine qaf (by first|omega|(rw[List.length_drop];omega)|(simp<;>omega)) ?_
     refine qac fun n85 hn85=>?_
     have gn85:=qap (d:=(0:Int)) hr4_1.2 (n:=n40) (by have:=hr4_1.1;omega)
     rw[Nat.zero_add] at hn85;rw[← hn85] at gn85
     refine qab (qa5 (by first|omega|assumption|(simp<;>omega)) (by first|omega|assumption|(simp<;>omega))) ?_
     rintro n86 hn86
     refine W_rb (by first|omega|(rw[List.length_drop];omega)|(simp<;>omega)) ?_
     refine qaf (by first|omega|(rw[List.length_drop];omega)|(simp<;>omega)) ?_
     refine qac fun z87 hz87=>?_
     have lz87:=congrArg List.length hz87;try simp at lz87
     have s87:=hr4_1.set hz87 (by omega)
     have m8:=s87.1
     refine qah (by omega) fun n88 hn88=>?_
     refine W_rs (by first|rfl|omega|(simp<;>omega)) ?_
     refine W_rs (by first|rfl|omega|(simp<;>omega)) ?_
     refine W_rs (by first|rfl|omega|(simp<;>omega)) ?_
     exact ihr4.use _ ⟨_,_,_,_,rfl,by omega,s87,hr4_2,hr43_1⟩ (by dsimp only;omega)
 ·refine W_rs (by first|rfl|omega|(simp<;>omega)) ?_
  refine W_rs (by first|rfl|omega|(simp<;>omega)) ?_
  refine W_rs (by first|rfl|omega|(simp<;>omega)) ?_
  refine qaa ?_
  exact⟨_,_,_,rfl,hr4_1,hr4_2,hr4_3⟩
end Go.Proofs.YtcdppfnjidlknaaGreatDoor
namespace Go.Proofs.YtcdppfnjidlknaaGreatDoor
open Go Go.Eng Go.Proofs Go.Wp
theorem qzs {r:Int} {r2:Int} {r3:Int} {r4:List Int} (p0:r4.length≤1000) (p1:0≤r2):W (qlb r r2 r3 r4) (fun q=>q.1.length≤20000):=by
 unfold qlb qhY
 refine qab (qqF) ?_
 rintro b1 hb1
 refine W_if (fun c1=>?_) fun c1=>?_
 ·refine W_if (fun c2=>?_) fun c2=>?_
  ·refine qaa ?_
   first|(simp;done)|(dsimp only;omega)
  ·exact absurd c1 c2
 ·refine W_if (fun c3=>?_) fun c3=>?_
  ·refine W_if (fun c4=>?_) fun c4=>?_
   ·refine qaa ?_
    first|(simp;done)|(dsimp only;omega)
   ·exact absurd c3 c4
  ·refine W_if (fun c5=>?_) fun c5=>?_
   ·refine W_if (fun c6=>?_) fun c6=>?_
    ·refine qaa ?_
     first|(simp;done)|(dsimp only;omega)
    ·exact absurd c5 c6
   ·refine W_if (fun c7=>?_) fun c7=>?_
    ·refine qaa ?_
     first|(simp;done)|(dsimp only;omega)
    ·refine W_if (fun c8=>?_) fun c8=>?_
     ·refine qaa ?_
      first|(simp;done)|(dsimp only;omega)
     ·refine W_wi (by omega) fun n2 hn2=>?_
      refine qab (qtM (by simp) (by have g:=hb1.1 (by simpa using c1);simp;omega)) ?_
      rintro z3 hz3
      refine W_rs (by first|rfl|omega|(simp<;>omega)) ?_
      refine qaj (fun v=>∃ z5 n8,v=((z5,()),(),r4,(r4.length:Int),n8,())∧(0≤n8∧n8≤(r4.length:Int))∧((z5.length:Int)≤40+10*n8)) (fun((z5,_),_,_,_,n8,_)=>((r4.length:Int)-n8).toNat) ⟨_,_,rfl,by omega,by simp at hz3;omega⟩ (by simp only[NN];omega) ?_
      rintro r4 _ ⟨z5,n8,rfl,hr4_0,hr4_1⟩ ihr4
      refine W_if (fun c10=>?_) fun c10=>?_
      ·refine W_ix (by omega) fun n9 hn9=>?_
       refine W_if (fun c11=>?_) fun c11=>?_
       ·refine qaa ?_
        first|(simp;done)|(dsimp only;omega)
       ·refine W_rs (by first|rfl|omega|(simp<;>omega)) ?_
        refine qab (qzC (by simp) (by simp;omega) (by omega)) ?_
        rintro z10 hz10
        refine qah (by omega) fun n11 hn11=>?_
        refine W_rs (by first|rfl|omega|(simp<;>omega)) ?_
        exact ihr4.use _ ⟨_,_,rfl,by omega,by simp at hz10;omega⟩ (by dsimp only;omega)
      ·refine W_rs (by first|rfl|omega|(simp<;>omega)) ?_
       refine qaa ?_
       first|(simp;done)|(dsimp only;omega)
theorem qtC {greens:List Int} {busy:List Int} {came:List Int} {t:SiteT} {t2:List UInt8} {t3:List SeenT} {t4:Int} {t5:Bool} {t6:Int} {t7:Int} {t8:Bool} {t9:Int} {t10:Int} {t11:Bool} {t12:Int} {t13:Int} {t14:List UInt8} {t15:Int} {t16:Int} {t17:List Int} {t18:Int} {t19:List Pls} {t20:List Lkd} {t21:List Gpd} {t22:Int} {t23:Int} {t24:Int} {t25:Int} {t26:Inp} {t27:List Put} {t28:List Pls} {t29:List UInt8} {t30:List UInt8} {t31:List UInt8} (p0:SG t) (p1:Cn greens t.phases.length) (p2:Cn busy t.phases.length) (p3:Cn came t.phases.length) (p4:0≤t25∧t25<4294967296) (p5:0≤t24∧t24≤1073741824) (p6:0≤t6):W (qnt greens busy came t t2 t3 t4 t5 t6 t7 t8 t9 t10 t11 t12 t13 t14 t15 t16 t17 t18 t19 t20 t21 t22 t23 t24 t25 t26 t27 t28 t29 t30 t31) (fun r=>∃ se ou gr bu ca,r=(t,t2,t3,t4,t5,t6,t7,t8,t9,t10,t11,t12,t13,t14,t15,t16,t17,t18,t19,t20,t21,t22,t23,t24,se,t26,t27,t28,t29,t30,ou,gr,bu,ca)∧(0≤se∧se<4294967296)∧Cn gr t.phases.length∧Cn bu t.phases.length∧Cn ca t.phases.length):=by
 unfold qnt qpS
 obtain⟨⟨q1,q2,q3,q4,q5,q6,q7,q8⟩,q9⟩:=p0.ok.shape
 have lw:=p0.ok.times.2.2.2.1.1
 refine qab (q5r (by first|omega|assumption|(simp<;>omega))) ?_
 rintro⟨n1,n2⟩ hn1
 try dsimp only at hn1
 refine qah (by omega) fun n3 hn3=>?_
 refine qaf (by first|omega|(rw[List.length_drop];omega)|(simp<;>omega)) ?_
 refine qac fun n4 hn4=>?_
 refine W_if (fun c2=>?_) fun c2=>?_
 ·refine W_rs (by first|rfl|omega|(simp<;>omega)) ?_
  refine W_rs (by first|rfl|omega|(simp<;>omega)) ?_
  refine W_rs (by first|rfl|omega|(simp<;>omega)) ?_
  refine qaa ?_
  exact⟨_,_,_,_,_,rfl,p4,p1,p2,p3⟩
 ·refine W_rs (by first|rfl|omega|(simp<;>omega)) ?_
  refine W_rs (by first|rfl|omega|(simp<;>omega)) ?_
  refine W_rs (by first|rfl|omega|(simp<;>omega)) ?_
  refine qaj (fun v=>∃ z6 z7 z8 z9 n46,v=((z6,z7,z8,z9,()),((t,t2,t3,t4,t5,t6,t7,t8,t9,t10,t11,t12,t13,t14,t15,t16,t17,t18,t19,t20,t21,t22,t23,t24,t25,t26,t27,t28,t29,t30,t31,()),(t.id,t6,t24,()),()),n1,(t.phases.length:Int),n46,())∧(0≤n46∧n46≤(t.phases.length:Int))∧((z9.length:Int)=n46)∧(Cn z6 t.phases.length)∧(Cn z7 t.phases.length)∧(Cn z8 t.phases.length)) (fun((z6,z7,z8,z9,_),((_,_,_,_,_,_,_,_,_,_,_,_,_,_,_,_,_,_,_,_,_,_,_,_,_,_,_,_,_,_,_,_),(_,_,_,_),_),_,_,n46,_)=>((t.phases.length:Int)-n46).toNat) ⟨_,_,_,_,_,rfl,by omega,by simp,p1,p2,p3⟩ (by simp only[NN];omega) ?_
  rintro r5 _ ⟨z6,z7,z8,z9,n46,rfl,hr5_0,hr5_1,hr5_2,hr5_3,hr5_4⟩ ihr5
  have m6:=hr5_2.1
  have m7:=hr5_3.1
  have m8:=hr5_4.1
  refine W_if (fun c9=>?_) fun c9=>?_
  ·refine W_rb (by first|omega|(rw[List.length_drop];omega)|(simp<;>omega)) ?_
   refine qaf (by first|omega|(rw[List.length_drop];omega)|(simp<;>omega)) ?_
   refine qac fun n51 hn51=>?_
   refine W_rb (by first|omega|(rw[List.length_drop];omega)|(simp<;>omega)) ?_
   refine qaf (by first|omega|(rw[List.length_drop];omega)|(simp<;>omega)) ?_
   refine qac fun n52 hn52=>?_
   refine W_rb (by first|omega|(rw[List.length_drop];omega)|(simp<;>omega)) ?_
   refine qaf (by first|omega|(rw[List.length_drop];omega)|(simp<;>omega)) ?_
   refine qac fun n53 hn53=>?_
   refine qac fun n54 hn54=>?_
   refine qac fun n55 hn55=>?_
   refine W_rb (by first|omega|(rw[List.length_drop];omega)|(simp<;>omega)) ?_
   refine qaf (by first|omega|(rw[List.length_drop];omega)|(simp<;>omega)) ?_
   refine qac fun n56 hn56=>?_
   refine qac fun n57 hn57=>?_
   refine qab (q7L) ?_
   rintro n58 hn58
   refine qab (q7L) ?_
   rintro n59 hn59
   refine qab (fixDiv_w) ?_
   rintro⟨n60,n61⟩ hn60
   try dsimp only at hn60
   refine W_rm (by first|omega|(rw[List.length_drop];omega)|(simp<;>omega)) ?_
   refine qac fun z62 hz62=>?_
   have lz62:=congrArg List.length hz62;try simp at lz62
   refine W_rb (by first|omega|(rw[List.length_drop];omega)|(simp<;>omega)) ?_
   refine qaf (by first|omega|(rw[List.length_drop];omega)|(simp<;>omega)) ?_
   refine qac fun z63 hz63=>?_
   have lz63:=congrArg List.length hz63;try simp at lz63
   have s63:=hr5_2.set hz63 (by omega)
   have m63:=s63.1
   refine W_rb (by first|omega|(rw[List.length_drop];omega)|(simp<;>omega)) ?_
   refine qaf (by first|omega|(rw[List.length_drop];omega)|(simp<;>omega)) ?_
   refine qac fun z64 hz64=>?_
   have lz64:=congrArg List.length hz64;try simp at lz64
   have s64:=hr5_3.set hz64 (by omega)
   have m64:=s64.1
   refine W_rb (by first|omega|(rw[List.length_drop];omega)|(simp<;>omega)) ?_
   refine qaf (by first|omega|(rw[List.length_drop];omega)|(simp<;>omega)) ?_
   refine qac fun z65 hz65=>?_
   have lz65:=congrArg List.length hz65;try simp at lz65
   have s65:=hr5_4.set hz65 (by omega)
   have m65:=s65.1
   refine qah (by omega) fun n66 hn66=>?_
   refine W_rs (by first|rfl|omega|(simp<;>omega)) ?_
   refine W_rs (by first|rfl|omega|(simp<;>omega)) ?_
   refine W_rs (by first|rfl|omega|(simp<;>omega)) ?_
   refine W_rs (by first|rfl|omega|(simp<;>omega)) ?_
   exact ihr5.use _ ⟨_,_,_,_,_,rfl,by omega,by omega,s63,s64,s65⟩ (by dsimp only;omega)
  ·refine qab (qzs (by rw[List.take_length];omega) p6) ?_
   rintro⟨z47,n48⟩ hz47
   try dsimp only at hz47
   refine qab (qm1 (by dsimp only;rw[List.take_length];omega)) ?_
   rintro⟨z49,n50⟩ hz49
   try dsimp only at hz49
   refine W_rs (by first|rfl|omega|(simp<;>omega)) ?_
   refine W_rs (by first|rfl|omega|(simp<;>omega)) ?_
   refine W_rs (by first|rfl|omega|(simp<;>omega)) ?_
   refine qaa ?_
   exact⟨_,_,_,_,_,rfl,hn1 (Classical.not_not.1 fun h=>by simp_all),hr5_2,hr5_3,hr5_4⟩
end Go.Proofs.YtcdppfnjidlknaaGreatDoor
