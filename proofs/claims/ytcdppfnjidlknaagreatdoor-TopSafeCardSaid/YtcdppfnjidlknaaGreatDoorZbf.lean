import Derived.Test.YtcdppfnjidlknaaGreatDoorZbe
set_option linter.unusedVariables false
set_option linter.unusedSimpArgs false
namespace Go.Proofs.YtcdppfnjidlknaaGreatDoor
open Go Go.Eng Go.Proofs Go.Wp
def Cn (l:List Int)(n:Nat):Prop:=l.length=n∧∀ x∈l,0≤x∧x≤1048576
structure LOk (s:SiteT) (x:LocT):Prop where
  disk:x.disk.length≤1000000
  now:qaM s x.seen x.start x.flashed
  rung:(0≤x.mode∧x.mode≤3)∧0≤x.well∧x.well≤1048576
  lat:(x.latched=true→x.mode=0∧x.well=0)∧(x.latched=false→1≤x.mode)
  seq:(0≤x.phase∧x.phase<s.phases.length)∧0≤x.since∧x.since≤1048576
  link:(0≤x.lage∧x.lage≤1048576)∧(0≤x.last∧x.last<4294967296)∧(x.any=false→x.last=0)
  rest:x.rest.length≤2048
  told:x.splits.length≤8
  age:0≤x.age∧x.age≤1048576
  wrong:0≤x.wrong∧x.wrong≤1048576
  pulses:x.pulses.length=s.eyes.length
  gaps:x.gaps.length=s.eyes.length
  eyes:x.eyes.length≤1000
  greens:Cn x.greens s.phases.length
  busy:Cn x.busy s.phases.length
  came:Cn x.came s.phases.length
  tick:0≤x.tick∧x.tick≤1073741824
  sent:0≤x.sent∧x.sent<4294967296
structure LNew (s:SiteT) (x:LocT):Prop where
  ok:LOk s x
  mode:x.mode=1∨x.mode=2
  well:x.well=0
  lat:x.latched=false
  start:IsG s x.start
  seen:x.seen=List.replicate s.groups.length ⟨1,1,1048576⟩
  fl:x.flashed=false
  told:x.cycle=0∧x.offset=0∧x.splits=[]
  age:x.age=1048576
  wrong:x.wrong=0
  tick:x.tick=0
  link:x.any=false∧x.last=0∧x.lage=0∧x.rest=[]
theorem W_eqn {α:Type}{o:Option α}{P:α→Prop}(h:W o P):W o (fun r=>P r∧o=some r):=by
  obtain⟨r,e,p⟩:=h
  exact⟨r,e,p,e⟩
theorem cn0 (n:Nat):Cn (List.replicate n 0) n:=⟨by simp,fun x hx=>by rw[(List.mem_replicate.1 hx).2];omega⟩
theorem first_ok {s:SiteT}{z:List SeenT}{st:Int}(h:SOk s)(e:z=List.replicate s.groups.length ⟨1,1,1048576⟩)(g:IsG s st):qaM s z st false:=by
  have q:∀ i:Nat,(i:Int)<s.groups.length→As z i=1:=by
    intro i hi
    subst e
    unfold As
    rw[List.getD_eq_getElem?_getD,List.getElem?_replicate,if_pos (by omega)];rfl
  refine⟨by rw[e,List.length_replicate],g.1,fun h=>by simp at h,fun _=>⟨fun i hi=>by have:=q i hi;dsimp only;omega,fun _ i hi=>q i hi,fun a ha b hb _=>.inl (q a ha)⟩⟩
theorem qeM {s:SiteT}{d:List UInt8}(p0:SG s)(p1:d.length≤1000000):W (qcM s d) (fun r=>LNew s r):=by
 unfold qcM qbw
 obtain⟨⟨q1,q2,q3,q4,q5,q6,q7,q8⟩,q9⟩:=p0.ok.shape
 refine qab (qeL (by first|omega|assumption|(simp<;>omega))) ?_
 rintro⟨n1,n2,n3,z4⟩ hn1
 try dsimp only at hn1
 refine qab (q1D (by first|omega|assumption|(simp<;>omega))) ?_
 rintro⟨n5,z6,n7,b8⟩ hn5
 try dsimp only at hn5
 refine qax (fun(_,((x21,_),(x22,_),(x23,_),_),_)=>s=x21∧(dflt 26)=x22∧(x23={(dflt 26:LocT) with disk:=d,seen:=z6,start:=n7,flashed:=b8,mode:=(if n3=2∨n3=3 then 2 else 1),well:=0,latched:=false,age:=(1048576:Int)})) (fun J9 hJ9=>?_) ?_
 ·refine W_sm ?_
  refine qab (qeI (by first|omega|assumption|(simp<;>omega))) ?_
  rintro z10 hz10
  refine W_sm ?_
  refine qab (qvQ) ?_
  rintro⟨n11,n12,b13⟩ hn11
  try dsimp only at hn11
  exact hJ9.use _ (by dsimp only;exact⟨rfl,rfl,by simp only[Prod.mk.injEq] at hn11;rw[hn11.1,hn11.2.1,hn11.2.2,hz10,List.take_length]⟩)
 ·rintro⟨_,⟨⟨x21,_⟩,⟨x22,_⟩,⟨x23,_⟩,_⟩,_⟩ kJ9;dsimp only at kJ9
  obtain⟨rfl,rfl,kJ9⟩:=kJ9
  refine qax (fun(_,((x25,_),(x26,_),_),n27,_)=>(dflt 26)=x25∧{x23 with pulses:=List.take (s.eyes.length:Int).toNat (List.replicate (s.eyes.length:Int).toNat {upf:=false,rawf:=false,sincef:=(0:Int):Pls}),eyes:=List.take (s.eyes.length:Int).toNat (List.replicate (s.eyes.length:Int).toNat (dflt 23)),gaps:=List.take (s.eyes.length:Int).toNat (List.replicate (s.eyes.length:Int).toNat (dflt 22))}=x26∧(s.phases.length:Int)=n27∧(True)) (fun J24 hJ24=>?_) ?_
  ·refine W_sm ?_
   refine qn5 (by first|omega|(rw[List.length_drop];omega)|(simp<;>omega)) ?_
   refine W_sm ?_
   refine qn5 (by first|omega|(rw[List.length_drop];omega)|(simp<;>omega)) ?_
   refine W_sm ?_
   refine qn5 (by first|omega|(rw[List.length_drop];omega)|(simp<;>omega)) ?_
   exact hJ24.use _ (by dsimp only;exact⟨rfl,rfl,rfl,by first|trivial|omega⟩)
  ·rintro⟨_,⟨⟨x25,_⟩,⟨x26,_⟩,_⟩,n27,_⟩ kJ24;dsimp only at kJ24
   obtain⟨rfl,rfl,rfl,kJ24⟩:=kJ24
   refine qax (fun(_,((x29,_),(x30,_),_),_)=>(dflt 26)=x29∧{({x23 with pulses:=List.take (s.eyes.length:Int).toNat (List.replicate (s.eyes.length:Int).toNat {upf:=false,rawf:=false,sincef:=(0:Int):Pls}),eyes:=List.take (s.eyes.length:Int).toNat (List.replicate (s.eyes.length:Int).toNat (dflt 23)),gaps:=List.take (s.eyes.length:Int).toNat (List.replicate (s.eyes.length:Int).toNat (dflt 22))}) with greens:=List.take (s.phases.length:Int).toNat (List.replicate (s.phases.length:Int).toNat (0:Int)),busy:=List.take (s.phases.length:Int).toNat (List.replicate (s.phases.length:Int).toNat (0:Int)),came:=List.take (s.phases.length:Int).toNat (List.replicate (s.phases.length:Int).toNat (0:Int))}=x30∧(True)) (fun J28 hJ28=>?_) ?_
   ·refine W_sm ?_
    refine qae (by first|omega|(rw[List.length_drop];omega)|(simp<;>omega)) ?_
    refine W_sm ?_
    refine qae (by first|omega|(rw[List.length_drop];omega)|(simp<;>omega)) ?_
    refine W_sm ?_
    refine qae (by first|omega|(rw[List.length_drop];omega)|(simp<;>omega)) ?_
    exact hJ28.use _ (by dsimp only;exact⟨rfl,rfl,by first|trivial|omega⟩)
   ·rintro⟨_,⟨⟨x29,_⟩,⟨x30,_⟩,_⟩,_⟩ kJ28;dsimp only at kJ28
    obtain⟨rfl,rfl,kJ28⟩:=kJ28
    refine qaa ?_
    subst kJ9
    obtain⟨h1,h2,h3,h4⟩:=hn5
    subst h4
    have fo:=first_ok p0.ok h3 h2
    have le:∀ {α:Type} (a:α) (n:Nat),(List.take (n:Int).toNat (List.replicate (n:Int).toNat a))=List.replicate n a:=fun a n=>by rw[Int.toNat_natCast,List.take_of_length_le (by simp)]
    simp only[le]
    have md:(if n3=2∨n3=3 then (2:Int) else 1)=1∨(if n3=2∨n3=3 then (2:Int) else 1)=2:=by split<;>simp
    generalize (if n3=2∨n3=3 then (2:Int) else 1)=m at md ⊢
    exact{ok:={disk:=p1,now:=fo,rung:=⟨by dsimp only;omega,Int.le_refl 0,show (0:Int)≤1048576 by omega⟩,lat:=⟨fun h=>by simp at h,fun _=>by dsimp only;omega⟩,seq:=⟨⟨Int.le_refl 0,show (0:Int)<_ by omega⟩,Int.le_refl 0,show (0:Int)≤1048576 by omega⟩,link:=⟨⟨Int.le_refl 0,show (0:Int)≤1048576 by omega⟩,⟨Int.le_refl 0,show (0:Int)<4294967296 by omega⟩,fun _=>rfl⟩,rest:=Nat.zero_le _,told:=Nat.zero_le _,age:=⟨show (0:Int)≤1048576 by omega,Int.le_refl 1048576⟩,wrong:=⟨Int.le_refl 0,show (0:Int)≤1048576 by omega⟩,pulses:=List.length_replicate,gaps:=List.length_replicate,eyes:=by dsimp only;rw[List.length_replicate];omega,greens:=cn0 _,busy:=cn0 _,came:=cn0 _,tick:=⟨Int.le_refl 0,show (0:Int)≤1073741824 by omega⟩,sent:=⟨Int.le_refl 0,show (0:Int)<4294967296 by omega⟩},mode:=md,well:=rfl,lat:=rfl,start:=h2,seen:=h3,fl:=rfl,told:=⟨rfl,rfl,rfl⟩,age:=rfl,wrong:=rfl,tick:=rfl,link:=⟨rfl,rfl,rfl,rfl⟩}
theorem qzr {s:SiteT}{d:List UInt8}(p0:SSm s)(p1:SWf s)(p2:d.length≤1000000):W (qcx s d) (fun r=>r.1=0→SG s∧LNew s r.2):=by
 unfold qcx qif
 refine qab (W_eqn (q1m p1 p0)) ?_
 rintro n1 hn1
 refine W_if (fun c1=>?_) fun c1=>?_
 ·refine qaa ?_
  exact fun h=>absurd h c1
 ·have e1:n1=0:=Classical.not_not.1 c1
  subst e1
  have sg:SG s:=⟨hn1.1 rfl,hn1.2⟩
  refine qab (qvL (by first|omega|assumption|(simp<;>omega))) ?_
  rintro b2 hb2
  refine W_if (fun c2=>?_) fun c2=>?_
  ·refine qaa ?_
   exact fun h=>by simp at h
  ·refine qab (qeM sg p2) ?_
   rintro x3 hx3
   refine qaa ?_
   exact fun _=>⟨sg,hx3⟩
end Go.Proofs.YtcdppfnjidlknaaGreatDoor
namespace Go.Proofs.YtcdppfnjidlknaaGreatDoor
open Go Go.Eng Go.Proofs Go.Wp
theorem qfL {r:List UInt8}{r2:Bool}{most:Int}(p0:r.length≤1000000)(p1:0≤most∧most≤1048576):W (qhL r r2 most) (fun q=>q.2.1.length≤r.length∧0≤q.1∧q.1≤most):=by
 unfold qhL quW
 refine qab (qjR (by first|omega|assumption|(simp<;>omega))) ?_
 rintro⟨n1,n2,n3⟩ hn1
 try dsimp only at hn1
 refine W_wu (by omega) fun n4 hn4=>?_
 refine W_if (fun c1=>?_) fun c1=>?_
 ·refine qaa ?_
  exact⟨Nat.le_refl _,Int.le_refl 0,p1.1⟩
 ·refine qae (by first|omega|(rw[List.length_drop];omega)|(simp<;>omega)) ?_
  refine qae (by first|omega|(rw[List.length_drop];omega)|(simp<;>omega)) ?_
  refine W_wi (by omega) fun n5 hn5=>?_
  refine qaa ?_
  dsimp only;rw[List.length_drop];omega
theorem qqA {n:Int}:W (qiI n) (fun r=>r=true↔0≤n∧n≤65535):=by
 unfold qiI qkr
 refine qaa ?_
 cases h1:decide (n≥0)<;>simp at h1 ⊢<;>omega
theorem qtA {l:List Int}(p0:l.length≤1000)(p1:∀ x∈l,0≤x∧x<9223372036854775808):W (qet l) (fun r=>r.length≤0+10*l.length):=by
 unfold qet qpc
 refine qaj (fun v=>∃ z2 n5,v=((z2,()),(),l,(l.length:Int),n5,())∧(0≤n5∧n5≤(l.length:Int))∧((z2.length:Int)≤0+10*n5)) (fun((z2,_),_,_,_,n5,_)=>((l.length:Int)-n5).toNat) ⟨_,_,rfl,by first|omega|(simp<;>omega),by first|omega|(simp<;>omega)⟩ (by simp only[NN];omega) ?_
 rintro r1 _ ⟨z2,n5,rfl,hr1_0,hr1_1⟩ ihr1
 refine W_if (fun c1=>?_) fun c1=>?_
 ·refine W_ix (by omega) fun n6 hn6=>?_
  have g6:=qam (d:=(0:Int)) p1 (n:=n5) (by omega)
  rw[← hn6] at g6
  refine W_wu (by omega) fun n7 hn7=>?_
  refine qab (qcz (by first|omega|assumption|(simp<;>omega))) ?_
  rintro z8 hz8
  refine W_rm (by first|omega|(rw[List.length_drop];omega)|(simp<;>omega)) ?_
  refine qac fun z9 hz9=>?_
  have lz9:=congrArg List.length hz9;try simp at lz9
  refine qag (by omega) fun n10 hn10=>?_
  refine W_rs (by first|rfl|omega|(simp<;>omega)) ?_
  exact ihr1.use _ ⟨_,_,rfl,by first|omega|(simp<;>omega),by first|omega|(simp<;>omega)⟩ (by dsimp only;omega)
 ·refine W_rs (by first|rfl|omega|(simp<;>omega)) ?_
  refine qaa ?_
  first|omega|simp|trivial
theorem qzs {b:List UInt8}{l:List Int}(p0:l.length≤1000)(p1:∀ x∈l,0≤x∧x<9223372036854775808)(p2:b.length≤1000000):W (qhT b l) (fun r=>r.length≤b.length+10*l.length):=by
 unfold qhT qvo
 refine W_rs (by first|rfl|omega|(simp<;>omega)) ?_
 refine qaj (fun v=>∃ z2 n5,v=((z2,()),(),l,(l.length:Int),n5,())∧(0≤n5∧n5≤(l.length:Int))∧((z2.length:Int)≤b.length+10*n5)) (fun((z2,_),_,_,_,n5,_)=>((l.length:Int)-n5).toNat) ⟨_,_,rfl,by first|omega|(simp<;>omega),by first|omega|(simp<;>omega)⟩ (by simp only[NN];omega) ?_
 rintro r1 _ ⟨z2,n5,rfl,hr1_0,hr1_1⟩ ihr1
 refine W_if (fun c2=>?_) fun c2=>?_
 ·refine W_ix (by omega) fun n6 hn6=>?_
  have g6:=qam (d:=(0:Int)) p1 (n:=n5) (by omega)
  rw[← hn6] at g6
  refine W_wu (by omega) fun n7 hn7=>?_
  refine qab (qcz (by first|omega|assumption|(simp<;>omega))) ?_
  rintro z8 hz8
  refine W_rm (by first|omega|(rw[List.length_drop];omega)|(simp<;>omega)) ?_
  refine qac fun z9 hz9=>?_
  have lz9:=congrArg List.length hz9;try simp at lz9
  refine qag (by omega) fun n10 hn10=>?_
  refine W_rs (by first|rfl|omega|(simp<;>omega)) ?_
  exact ihr1.use _ ⟨_,_,rfl,by first|omega|(simp<;>omega),by first|omega|(simp<;>omega)⟩ (by dsimp only;omega)
 ·refine W_rs (by first|rfl|omega|(simp<;>omega)) ?_
  refine qaa ?_
  first|omega|simp|trivial
theorem qvT {c:Int}{c2:Int}{c3:Int}{c4:List Int}(p0:c4.length≤8∧∀ x∈c4,0≤x∧x≤1048576):W (qib c c2 c3 c4) (fun r=>r.1.length≤1000):=by
 unfold qib qbv
 refine qab (qqA) ?_
 rintro b1 hb1
 refine W_if (fun c1=>?_) fun c1=>?_
 ·refine qaa ?_
  simp
 ·refine qab (qii (by simp;omega)) ?_
  rintro⟨z2,n3⟩ hz2
  try dsimp only at hz2
  refine W_if (fun c2=>?_) fun c2=>?_
  ·refine qaa ?_
   simp
  ·refine W_sm ?_
   refine qab (qtA (by simp) (by have h:=(hz2.2 (Classical.not_not.1 (by assumption))).2 _ (List.mem_singleton.2 rfl);unfold Tk at h;dsimp only at h;have g:=hb1.1 (by simpa using c1);simp;omega)) ?_
   rintro z4 hz4
   refine W_rs (by first|rfl|omega|(simp<;>omega)) ?_
   refine qab (qzs (by omega) (fun x hx=>by have:=p0.2 x hx;omega) (by simp at hz4;omega)) ?_
   rintro z5 hz5
   refine W_rs (by first|rfl|omega|(simp<;>omega)) ?_
   refine qaa ?_
   dsimp only;simp at hz4;omega
theorem q1J {l:Bool}{l2:Int}{l3:Int}(p0:(0≤l3∧l3≤1048576)∧(l=false→l2=0)):W (qoq l l2 l3) (fun r=>r=0):=by
 unfold qoq qkt
 refine W_if (fun c1=>?_) fun c1=>?_
 ·refine qaa ?_
  exfalso;rcases c1 with h|⟨h,g⟩
  · omega
  · exact g (p0.2 (by simpa using h))
 ·refine qaa ?_
  rfl
theorem q4T {last:Int}(p0:0≤last∧last<4294967296):W (qu5 last) (fun r=>r.2=0→0≤r.1∧r.1<4294967296):=by
 unfold qu5 qor
 refine W_if (fun c1=>?_) fun c1=>?_
 ·refine qaa ?_
  first|omega|simp|trivial
 ·refine W_wq (by omega) fun n1 hn1=>?_
  refine qaa ?_
  first|omega|simp|trivial
theorem qfM {b:List UInt8}(p0:b.length≤1000000):W (qb6 b) (fun r=>r.2.2.2.2.length≤8∧(∀ x∈r.2.2.2.2,0≤x∧x≤1048576)):=by
 unfold qb6 qaK
 refine qab (qfL (by first|omega|assumption|(simp<;>omega)) (by first|omega|assumption|(simp<;>omega))) ?_
 rintro⟨n1,z2,b3⟩ hn1
 try dsimp only at hn1
 refine qab (qfL (by first|omega|assumption|(simp<;>omega)) (by first|omega|assumption|(simp<;>omega))) ?_
 rintro⟨n4,z5,b6⟩ hn4
 try dsimp only at hn4
 refine qab (qfL (by first|omega|assumption|(simp<;>omega)) (by first|omega|assumption|(simp<;>omega))) ?_
 rintro⟨n7,z8,b9⟩ hn7
 try dsimp only at hn7
 refine qab (qfL (by first|omega|assumption|(simp<;>omega)) (by first|omega|assumption|(simp<;>omega))) ?_
 rintro⟨n10,z11,b12⟩ hn10
 try dsimp only at hn10
 refine qaj (fun v=>∃ z14 z22 b23 n26,v=((z14,()),((n1,n4,n7,()),((0:Int),(0:Int),(0:Int),qeY,()),(z22,b23,()),()),b,((),()),n10,n26,())∧(0≤n26∧n26≤n10)∧((z14.length:Int)=n26)∧(∀ x∈z14,0≤x∧x≤1048576)∧(z22.length≤b.length)) (fun((z14,_),((_,_,_,_),(_,_,_,_,_),(z22,b23,_),_),_,(_,_),_,n26,_)=>(n10-n26).toNat) ⟨_,_,_,_,rfl,by omega,by simp,by simp,by omega⟩ (by simp only[NN];omega) ?_
 rintro r13 _ ⟨z14,z22,b23,n26,rfl,hr13_0,hr13_1,hr13_2,hr13_3⟩ ihr13
 refine W_if (fun c1=>?_) fun c1=>?_
 ·refine qax (fun((z43,_),((n44,n45,n46,_),(n47,n48,n49,z50,_),(z51,b52,_),_),z53,(_,_),n54,n55,_)=>n1=n44∧n4=n45∧n7=n46∧(0:Int)=n47∧(0:Int)=n48∧(0:Int)=n49∧qeY=z50∧b=z53∧n10=n54∧n26=n55∧((z43.length:Int)=n26+1∧(∀ x∈z43,0≤x∧x≤1048576)∧z51.length≤b.length)) (fun J30 hJ30=>?_) ?_
  ·refine W_sm ?_
   refine qab (qfL (by first|omega|assumption|(simp<;>omega)) (by first|omega|assumption|(simp<;>omega))) ?_
   rintro⟨n31,z32,b33⟩ hn31
   try dsimp only at hn31
   refine W_rm (by first|omega|(rw[List.length_drop];omega)|(simp<;>omega)) ?_
   refine qac fun z34 hz34=>?_
   have lz34:=congrArg List.length hz34;try simp at lz34
   refine W_rs (by first|rfl|omega|(simp<;>omega)) ?_
   exact hJ30.use _ (by dsimp only;exact⟨rfl,rfl,rfl,rfl,rfl,rfl,rfl,rfl,rfl,rfl,by omega,qdz hr13_2 hz34 hn31.2,by omega⟩)
  ·rintro⟨⟨z43,_⟩,⟨⟨n44,n45,n46,_⟩,⟨n47,n48,n49,z50,_⟩,⟨z51,b52,_⟩,_⟩,z53,⟨_,_⟩,n54,n55,_⟩ kJ30;dsimp only at kJ30
   obtain⟨rfl,rfl,rfl,rfl,rfl,rfl,rfl,rfl,rfl,rfl,kJ30⟩:=kJ30
   obtain⟨k1,k2,k3⟩:=kJ30
   refine qag (by omega) fun n56 hn56=>?_
   refine W_rs (by first|rfl|omega|(simp<;>omega)) ?_
   exact ihr13.use _ ⟨_,_,_,_,rfl,by omega,by omega,k2,k3⟩ (by dsimp only;omega)
 ·refine qab (qvT (by rw[List.take_length];exact⟨by omega,hr13_2⟩)) ?_
  rintro⟨z27,n28⟩ hz27
  try dsimp only at hz27
  refine W_if (fun c5=>?_) fun c5=>?_
  ·refine qaa ?_
   first|(simp;done)|(dsimp only;rw[List.take_length];exact⟨by omega,hr13_2⟩)
  ·refine qab (qfH) ?_
   rintro b29 hb29
   refine W_if (fun c6=>?_) fun c6=>?_
   ·refine qaa ?_
    first|(simp;done)|(dsimp only;rw[List.take_length];exact⟨by omega,hr13_2⟩)
   ·refine qaa ?_
    first|(simp;done)|(dsimp only;rw[List.take_length];exact⟨by omega,hr13_2⟩)
theorem qtB {l:Bool}{l2:Int}{l3:Int}{got:List Msg}(p0:(0≤l3∧l3≤1048576)∧(0≤l2∧l2<4294967296)∧(l=false→l2=0))(p1:got.length≤1000000):W (qmW l l2 l3 got) (fun r=>r.1.length≤1024∧(∀ m∈r.1,m.body.length≤512)∧(0≤r.2.2.2.2∧r.2.2.2.2≤1048576)∧(0≤r.2.2.2.1∧r.2.2.2.1<4294967296)∧(r.2.2.1=false→r.2.2.2.1=0)):=by
 unfold qmW qdC
 refine qab (q1J ⟨p0.1,p0.2.2⟩) ?_
 rintro n1 hn1
 refine W_if (fun c1=>?_) fun c1=>?_
 ·refine qaa ?_
  first|(simp;done)|(dsimp only;rw[List.take_length];exact⟨by omega,hr13_2,⟨by omega,by omega⟩,hr13_3⟩)
 ·refine W_if (fun c2=>?_) fun c2=>?_
  ·refine qaa ?_
   first|(simp;done)|(dsimp only;rw[List.take_length];exact⟨by omega,hr13_2,⟨by omega,by omega⟩,hr13_3⟩)
  ·refine qaj (fun v=>∃ n12,v=((),((l,l2,l3,()),(false,(0:Int),(0:Int),()),()),got,got,(got.length:Int),n12,())∧(0≤n12∧n12≤(got.length:Int))∧(Upto (fun m:Msg=>m.body.length≤512) got (dflt 8) n12)) (fun(_,((_,_,_,_),(_,_,_,_),_),_,_,_,n12,_)=>((got.length:Int)-n12).toNat) ⟨_,rfl,by omega,Upto.zero⟩ (by simp only[NN];omega) ?_
   rintro r2 _ ⟨n12,rfl,hr2_0,hr2_1⟩ ihr2
   refine W_if (fun c3=>?_) fun c3=>?_
   ·refine W_ix (by omega) fun x43 hx43=>?_
    refine W_if (fun c4=>?_) fun c4=>?_
    ·refine qaa ?_
     first|(simp;done)|(dsimp only;rw[List.take_length];exact⟨by omega,hr13_2,⟨by omega,by omega⟩,hr13_3⟩)
    ·refine qag (by omega) fun n44 hn44=>?_
     exact ihr2.use _ ⟨_,rfl,by omega,hr2_1.succ (by omega) hn44 (by rw[← hx43];omega)⟩ (by dsimp only;omega)
   ·refine qaj (fun v=>∃ z14 b15 n16 n23,v=((z14,()),((b15,n16,l3,()),(false,(0:Int),(0:Int),()),()),got,(got.length:Int),n23,())∧(0≤n23∧n23≤(got.length:Int))∧((z14.length:Int)≤n23)∧((∀ m∈z14,m.body.length≤512))∧((0≤n16∧n16<4294967296)∧(b15=false→n16=0))) (fun((z14,_),((b15,n16,_,_),(_,_,_,_),_),_,_,n23,_)=>((got.length:Int)-n23).toNat) ⟨_,_,_,_,rfl,by omega,by simp,by simp,p0.2⟩ (by simp only[NN];omega) ?_
    rintro r13 _ ⟨z14,b15,n16,n23,rfl,hr13_0,hr13_1,hr13_2,hr13_3⟩ ihr13
    refine W_if (fun c5=>?_) fun c5=>?_
    ·refine W_ix (by omega) fun x26 hx26=>?_
     have g26:=qam (d:=dflt 8) (n:=n23) (hr2_1.all (by omega)) (by omega)
     rw[← hx26] at g26
     refine W_if (fun c6=>?_) fun c6=>?_
     ·refine qag (by omega) fun n42 hn42=>?_
      refine W_rs (by first|rfl|omega|(simp<;>omega)) ?_
      exact ihr13.use _ ⟨_,_,_,_,rfl,by omega,by omega,hr13_2,hr13_3⟩ (by dsimp only;omega)
     ·refine qax (fun((z28,_),((b29,n30,n31,_),(b32,n33,n34,_),(x35,_),_),z36,n37,n38,_)=>z14=z28∧true=b29∧(↑x26.seq.toNat:Int)=n30∧l3=n31∧false=b32∧(0:Int)=n33∧(0:Int)=n34∧{kind:=UInt8.ofNat (↑x26.kind.toNat:Int).toNat,seq:=UInt32.ofNat (↑x26.seq.toNat:Int).toNat,body:=x26.body:Msg}=x35∧got=z36∧(got.length:Int)=n37∧n23=n38∧(True)) (fun J27 hJ27=>?_) ?_
      ·refine W_sm ?_
       refine W_rs (by first|rfl|omega|(simp<;>omega)) ?_
       exact hJ27.use _ (by dsimp only;exact⟨rfl,rfl,rfl,rfl,rfl,rfl,rfl,rfl,rfl,rfl,rfl,by first|trivial|omega⟩)
      ·rintro⟨⟨z28,_⟩,⟨⟨b29,n30,n31,_⟩,⟨b32,n33,n34,_⟩,⟨x35,_⟩,_⟩,z36,n37,n38,_⟩ kJ27;dsimp only at kJ27
       obtain⟨rfl,rfl,rfl,rfl,rfl,rfl,rfl,rfl,rfl,rfl,rfl,kJ27⟩:=kJ27
       refine qab (qdq (by first|omega|assumption|(simp<;>omega))) ?_
       rintro z39 hz39
       refine W_rm (by first|omega|(rw[List.length_drop];omega)|(simp<;>omega)) ?_
       refine qac fun z40 hz40=>?_
       have lz40:=congrArg List.length hz40;try simp at lz40
       have u26:=qca x26.seq
       refine qag (by omega) fun n41 hn41=>?_
       refine W_rs (by first|rfl|omega|(simp<;>omega)) ?_
       exact ihr13.use _ ⟨_,_,_,_,rfl,by omega,by omega,qdz hr13_2 hz40 (by dsimp only;rw[List.take_length,hz39];exact g26),⟨by omega,fun h=>by simp at h⟩⟩ (by dsimp only;omega)
    ·refine qag (by omega) fun n24 hn24=>?_
     refine qac fun n25 hn25=>?_
     refine W_if (fun c11=>?_) fun c11=>?_
     ·refine qaa ?_
      first|(simp;done)|(dsimp only;rw[List.take_length];exact⟨by omega,hr13_2,⟨by omega,by omega⟩,hr13_3⟩)
     ·refine qaa ?_
      first|(simp;done)|(dsimp only;rw[List.take_length];exact⟨by omega,hr13_2,⟨by omega,by omega⟩,hr13_3⟩)
end Go.Proofs.YtcdppfnjidlknaaGreatDoor
namespace Go.Proofs.YtcdppfnjidlknaaGreatDoor
open Go Go.Eng Go.Proofs Go.Wp
theorem ap0 (X:List UInt8):List.append._f [] PUnit.unit X=X:=rfl
theorem and_15 (x:Int):0≤bits .and .u32 x 15∧bits .and .u32 x 15<16:=by
  have e:bits .and .u32 x 15=IntKind.u32.wrap ((BitVec.ofInt 32 x &&& BitVec.ofInt 32 15).toNat:Int):=rfl
  have h:(BitVec.ofInt 32 x &&& BitVec.ofInt 32 15).toNat≤15:=by
    rw[BitVec.toNat_and];exact Nat.and_le_right
  rw[e,Go.Wp.uwrap .u32 rfl _ (by show _<4294967296;omega)]
  omega
theorem q34 {b:List UInt8}(p0:b.length≤1000000):W (q20 b) (fun r=>0≤r∧r<4294967296):=by
 unfold q20 q0e
 refine qaj (fun v=>∃ n3 n6,v=(((UInt32.ofNat (Int.toNat (0:Int))::UInt32.ofNat (Int.toNat (498536548:Int))::UInt32.ofNat (Int.toNat (997073096:Int))::UInt32.ofNat (Int.toNat (651767980:Int))::UInt32.ofNat (Int.toNat (1994146192:Int))::UInt32.ofNat (Int.toNat (1802195444:Int))::UInt32.ofNat (Int.toNat (1303535960:Int))::UInt32.ofNat (Int.toNat (1342533948:Int))::UInt32.ofNat (Int.toNat (3988292384:Int))::UInt32.ofNat (Int.toNat (4027552580:Int))::UInt32.ofNat (Int.toNat (3604390888:Int))::UInt32.ofNat (Int.toNat (3412177804:Int))::UInt32.ofNat (Int.toNat (2607071920:Int))::UInt32.ofNat (Int.toNat (2262029012:Int))::UInt32.ofNat (Int.toNat (2685067896:Int))::UInt32.ofNat (Int.toNat (3183342108:Int))::nilL2),()),(),n3,b,(b.length:Int),n6,())∧(0≤n6∧n6≤(b.length:Int))) (fun((_,_),_,n3,_,_,n6,_)=>((b.length:Int)-n6).toNat) ⟨_,_,rfl,by first|omega|(simp<;>omega)⟩ (by simp only[NN];omega) ?_
 rintro r1 _ ⟨n3,n6,rfl,hr1_0⟩ ihr1
 refine W_if (fun c1=>?_) fun c1=>?_
 ·refine W_ix (by omega) fun x8 hx8=>?_
  refine qac fun n9 hn9=>?_
  refine qac fun n10 hn10=>?_
  refine qac fun n11 hn11=>?_
  refine qac fun n12 hn12=>?_
  have g12:=and_15 n11
  rw[← hn12] at g12
  refine qae (by (first|omega|(simp;omega)|(show n12.toNat<16;omega)|(show n19.toNat<16;omega))) ?_
  refine qae (by (first|omega|(simp;omega)|(show n12.toNat<16;omega)|(show n19.toNat<16;omega))) ?_
  refine qae (by (first|omega|(simp;omega)|(show n12.toNat<16;omega)|(show n19.toNat<16;omega))) ?_
  refine qac fun n13 hn13=>?_
  refine qac fun n14 hn14=>?_
  refine qac fun n15 hn15=>?_
  refine qac fun n16 hn16=>?_
  refine qac fun n17 hn17=>?_
  refine qac fun n18 hn18=>?_
  refine qac fun n19 hn19=>?_
  have g19:=and_15 n18
  rw[← hn19] at g19
  refine qae (by (first|omega|(simp;omega)|(show n12.toNat<16;omega)|(show n19.toNat<16;omega))) ?_
  refine qae (by (first|omega|(simp;omega)|(show n12.toNat<16;omega)|(show n19.toNat<16;omega))) ?_
  refine qae (by (first|omega|(simp;omega)|(show n12.toNat<16;omega)|(show n19.toNat<16;omega))) ?_
  refine qac fun n20 hn20=>?_
  refine qac fun n21 hn21=>?_
  refine qag (by omega) fun n22 hn22=>?_
  exact ihr1.use _ ⟨_,_,rfl,by first|omega|(simp<;>omega)⟩ (by dsimp only;omega)
 ·refine qac fun n7 hn7=>?_
  refine qaa ?_
  rw[hn7];exact qzt ..
theorem qyW {b:List UInt8}(p0:b.length≤1000000):W (qku b) (fun r=>r.length≤2*b.length):=by
 unfold qku qhA
 refine qae (by first|omega|(rw[List.length_drop];omega)|(simp<;>omega)) ?_
 refine qaj (fun v=>∃ z2 n5,v=((z2,()),(),b,(b.length:Int),n5,())∧(0≤n5∧n5≤(b.length:Int))∧((z2.length:Int)≤2*n5)) (fun((z2,_),_,_,_,n5,_)=>((b.length:Int)-n5).toNat) ⟨_,_,rfl,by first|omega|(simp<;>omega),by first|omega|(simp<;>omega)⟩ (by simp only[NN];omega) ?_
 rintro r1 _ ⟨z2,n5,rfl,hr1_0,hr1_1⟩ ihr1
 refine W_if (fun c2=>?_) fun c2=>?_
 ·refine W_ix (by omega) fun x6 hx6=>?_
  refine W_if (fun c3=>?_) fun c3=>?_
  ·refine W_rm (by first|omega|(rw[List.length_drop];omega)|(simp<;>omega)) ?_
   refine qac fun z9 hz9=>?_
   have lz9:=congrArg List.length hz9;try simp at lz9
   refine qac fun n10 hn10=>?_
   refine qae (by first|omega|(rw[List.length_drop];omega)|(simp<;>omega)) ?_
   refine qac fun z11 hz11=>?_
   have lz11:=congrArg List.length hz11;try simp at lz11
   refine qag (by omega) fun n12 hn12=>?_
   refine W_rs (by first|rfl|omega|(simp<;>omega)) ?_
   exact ihr1.use _ ⟨_,_,rfl,by first|omega|(simp<;>omega),by first|omega|(simp<;>omega)⟩ (by dsimp only;omega)
  ·refine W_rm (by first|omega|(rw[List.length_drop];omega)|(simp<;>omega)) ?_
   refine qac fun z7 hz7=>?_
   have lz7:=congrArg List.length hz7;try simp at lz7
   refine qag (by omega) fun n8 hn8=>?_
   refine W_rs (by first|rfl|omega|(simp<;>omega)) ?_
   exact ihr1.use _ ⟨_,_,rfl,by first|omega|(simp<;>omega),by first|omega|(simp<;>omega)⟩ (by dsimp only;omega)
 ·refine W_rs (by first|rfl|omega|(simp<;>omega)) ?_
  refine qaa ?_
  first|omega|simp|trivial
theorem q1o {b:List UInt8}(p0:b.length≤1000000):W (qou b) (fun r=>r.1.length≤b.length):=by
 unfold qou qkv
 refine qae (by first|omega|(rw[List.length_drop];omega)|(simp<;>omega)) ?_
 refine qaj (fun v=>∃ z2 b3 n6,v=((z2,()),(),b3,b,(b.length:Int),n6,())∧(0≤n6∧n6≤(b.length:Int))∧((z2.length:Int)≤n6)) (fun((z2,_),_,b3,_,_,n6,_)=>((b.length:Int)-n6).toNat) ⟨_,_,_,rfl,by first|omega|(simp<;>omega),by first|omega|(simp<;>omega)⟩ (by simp only[NN];omega) ?_
 rintro r1 _ ⟨z2,b3,n6,rfl,hr1_0,hr1_1⟩ ihr1
 refine W_if (fun c2=>?_) fun c2=>?_
 ·refine W_ix (by omega) fun x7 hx7=>?_
  refine W_if (fun c3=>?_) fun c3=>?_
  ·refine W_if (fun c4=>?_) fun c4=>?_
   ·refine qaa ?_
    first|(simp;done)|(dsimp only;omega)
   ·refine W_if (fun c5=>?_) fun c5=>?_
    ·refine qac fun n17 hn17=>?_
     refine W_rm (by first|omega|(rw[List.length_drop];omega)|(simp<;>omega)) ?_
     refine qac fun z18 hz18=>?_
     have lz18:=congrArg List.length hz18;try simp at lz18
     refine qag (by omega) fun n19 hn19=>?_
     refine W_rs (by first|rfl|omega|(simp<;>omega)) ?_
     exact ihr1.use _ ⟨_,_,_,rfl,by first|omega|(simp<;>omega),by first|omega|(simp<;>omega)⟩ (by dsimp only;omega)
    ·refine W_if (fun c8=>?_) fun c8=>?_
     ·refine qag (by omega) fun n16 hn16=>?_
      refine W_rs (by first|rfl|omega|(simp<;>omega)) ?_
      exact ihr1.use _ ⟨_,_,_,rfl,by first|omega|(simp<;>omega),by first|omega|(simp<;>omega)⟩ (by dsimp only;omega)
     ·refine W_rm (by first|omega|(rw[List.length_drop];omega)|(simp<;>omega)) ?_
      refine qac fun z14 hz14=>?_
      have lz14:=congrArg List.length hz14;try simp at lz14
      refine qag (by omega) fun n15 hn15=>?_
      refine W_rs (by first|rfl|omega|(simp<;>omega)) ?_
      exact ihr1.use _ ⟨_,_,_,rfl,by first|omega|(simp<;>omega),by first|omega|(simp<;>omega)⟩ (by dsimp only;omega)
  ·refine W_if (fun c12=>?_) fun c12=>?_
   ·refine qaa ?_
    first|(simp;done)|(dsimp only;omega)
   ·refine W_if (fun c13=>?_) fun c13=>?_
    ·refine qac fun n11 hn11=>?_
     refine W_rm (by first|omega|(rw[List.length_drop];omega)|(simp<;>omega)) ?_
     refine qac fun z12 hz12=>?_
     have lz12:=congrArg List.length hz12;try simp at lz12
     refine qag (by omega) fun n13 hn13=>?_
     refine W_rs (by first|rfl|omega|(simp<;>omega)) ?_
     exact ihr1.use _ ⟨_,_,_,rfl,by first|omega|(simp<;>omega),by first|omega|(simp<;>omega)⟩ (by dsimp only;omega)
    ·refine W_if (fun c16=>?_) fun c16=>?_
     ·refine qag (by omega) fun n10 hn10=>?_
      refine W_rs (by first|rfl|omega|(simp<;>omega)) ?_
      exact ihr1.use _ ⟨_,_,_,rfl,by first|omega|(simp<;>omega),by first|omega|(simp<;>omega)⟩ (by dsimp only;omega)
     ·refine W_rm (by first|omega|(rw[List.length_drop];omega)|(simp<;>omega)) ?_
      refine qac fun z8 hz8=>?_
      have lz8:=congrArg List.length hz8;try simp at lz8
      refine qag (by omega) fun n9 hn9=>?_
      refine W_rs (by first|rfl|omega|(simp<;>omega)) ?_
      exact ihr1.use _ ⟨_,_,_,rfl,by first|omega|(simp<;>omega),by first|omega|(simp<;>omega)⟩ (by dsimp only;omega)
 ·refine W_if (fun c20=>?_) fun c20=>?_
  ·refine qaa ?_
   first|(simp;done)|(dsimp only;omega)
  ·refine W_rs (by first|rfl|omega|(simp<;>omega)) ?_
   refine qaa ?_
   first|(simp;done)|(dsimp only;omega)
theorem q1p {b:List UInt8}(p0:b.length≤1000000):W (qpe b) (fun r=>r.2.2.2.length≤512):=by
 unfold qpe qkK
 refine W_wi (by omega) fun n1 hn1=>?_
 refine W_if (fun c1=>?_) fun c1=>?_
 ·refine qaa ?_
  first|(simp;done)|(rw[hz10];simp;omega)
 ·refine qae (by first|omega|(rw[List.length_drop];omega)|(simp<;>omega)) ?_
  refine qab (qvJ) ?_
  rintro⟨n2,n3⟩ hn2
  try dsimp only at hn2
  refine qae (by first|omega|(rw[List.length_drop];omega)|(simp<;>omega)) ?_
  refine qae (by first|omega|(rw[List.length_drop];omega)|(simp<;>omega)) ?_
  refine qab (qvJ) ?_
  rintro⟨n4,n5⟩ hn4
  try dsimp only at hn4
  refine qae (by first|omega|(rw[List.length_drop];omega)|(simp<;>omega)) ?_
  refine qae (by first|omega|(rw[List.length_drop];omega)|(simp<;>omega)) ?_
  refine qab (q34 (by first|omega|assumption|(simp<;>omega))) ?_
  rintro n6 hn6
  refine qac fun n7 hn7=>?_
  refine W_if (fun c7=>?_) fun c7=>?_
  ·refine qaa ?_
   first|(simp;done)|(rw[hz10];simp;omega)
  ·refine qae (by first|omega|(rw[List.length_drop];omega)|(simp<;>omega)) ?_
   refine qac fun x8 hx8=>?_
   refine qac fun n9 hn9=>?_
   refine qae (by first|omega|(rw[List.length_drop];omega)|(simp<;>omega)) ?_
   refine qae (by first|omega|(rw[List.length_drop];omega)|(simp<;>omega)) ?_
   refine qab (qdq (by first|omega|assumption|(simp<;>omega))) ?_
   rintro z10 hz10
   refine W_rs (by first|rfl|omega|(simp<;>omega)) ?_
   refine qaa ?_
   first|(simp;done)|(rw[hz10];simp;omega)
theorem qyX {b:List UInt8}(p0:b.length≤1000000):W (qkY b) (fun r=>r.2.2.2.length≤512):=by
 unfold qkY qhW
 refine qab (q1o (by first|omega|assumption|(simp<;>omega))) ?_
 rintro⟨z1,n2⟩ hz1
 try dsimp only at hz1
 refine W_if (fun c1=>?_) fun c1=>?_
 ·refine qaa ?_
  first|(simp;done)|assumption
 ·refine qab (q1p (by rw[List.take_length];omega)) ?_
  rintro⟨n3,n4,n5,z6⟩ hn3
  try dsimp only at hn3
  refine W_rs (by first|rfl|omega|(simp<;>omega)) ?_
  refine qaa ?_
  first|(simp;done)|assumption
theorem qeZ {s:List UInt8}{c:Int}(p0:s.length≤1000000):W (qbb s c) (fun r=>-1≤r∧r<s.length):=by
 unfold qbb qaV
 refine W_wi (by omega) fun n1 hn1=>?_
 refine qaj (fun v=>∃ n5,v=((),(),s,c,n5,())∧(-1≤n5∧n5<s.length)) (fun(_,_,_,_,n5,_)=>(n5+1).toNat) ⟨_,rfl,by omega⟩ (by simp only[NN];omega) ?_
 rintro r2 _ ⟨n5,rfl,hr2_0⟩ ihr2
 refine W_if (fun c1=>?_) fun c1=>?_
 ·refine W_ix (by omega) fun x6 hx6=>?_
  refine W_if (fun c2=>?_) fun c2=>?_
  ·refine qaa ?_
   first|omega|simp|trivial
  ·refine W_wi (by omega) fun n7 hn7=>?_
   exact ihr2.use _ ⟨_,rfl,by omega⟩ (by dsimp only;omega)
 ·refine qaa ?_
  first|omega|simp|trivial
theorem qhf {s:List UInt8}{c:Int}(p0:s.length≤1000000):W (qb5 s c) (fun r=>-1≤r∧r<s.length):=by
 unfold qb5 qbk
 refine qab (qeZ (by first|omega|assumption|(simp<;>omega))) ?_
 rintro n1 hn1
 refine qaa ?_
 first|omega|simp|trivial
theorem q4D:W (qu8 ) (fun r=>r=(false,false,true)):=by
 unfold qu8 qov
 refine qaa ?_
 rfl
theorem qyY {r:Bool}{r2:Bool}{r3:Bool}{b:List UInt8}(p0:b.length≤1000000):W (qld r r2 r3 b) (fun q=>(∀ m∈q.1,m.body.length≤512)∧(q.1.length:Int)≤b.length):=by
 unfold qld qhZ
 refine W_if (fun c1=>?_) fun c1=>?_
 ·refine qaa ?_
  first|(simp;done)|(dsimp only;rw[List.take_length];exact⟨hr1_3,by omega⟩)
 ·refine W_if (fun c2=>?_) fun c2=>?_
  ·refine qaa ?_
   first|(simp;done)|(dsimp only;rw[List.take_length];exact⟨hr1_3,by omega⟩)
  ·refine qaj (fun v=>∃ z2 z3 x4 b5 b6 n10,v=((z2,z3,()),((x4,b5,b6,r3,()),()),b,(b.length:Int),n10,())∧(0≤n10∧n10≤(b.length:Int))∧((z3.length:Int)≤n10)∧(x4≤2000)∧((∀ m∈z3,m.body.length≤512))) (fun((z2,z3,_),((x4,b5,b6,_,_),_),_,_,n10,_)=>((b.length:Int)-n10).toNat) ⟨_,_,_,_,_,_,rfl,by omega,by simp,by omega,by simp⟩ (by simp only[NN];omega) ?_
   rintro r1 _ ⟨z2,z3,x4,b5,b6,n10,rfl,hr1_0,hr1_1,hr1_2,hr1_3⟩ ihr1
   refine W_if (fun c3=>?_) fun c3=>?_
   ·refine W_ix (by omega) fun x11 hx11=>?_
    refine W_if (fun c4=>?_) fun c4=>?_
    ·refine qab (qyX (by rw[List.length_take];omega)) ?_
     rintro⟨b16,n17,n18,z19⟩ hb16
     try dsimp only at hb16
     refine W_if (fun c5=>?_) fun c5=>?_
     ·refine W_rm (by first|omega|(rw[List.length_drop];omega)|(simp<;>omega)) ?_
      refine qac fun z21 hz21=>?_
      have lz21:=congrArg List.length hz21;try simp at lz21
      refine qag (by omega) fun n22 hn22=>?_
      refine W_rs (by first|rfl|omega|(simp<;>omega)) ?_
      exact ihr1.use _ ⟨_,_,_,_,_,_,rfl,by omega,by omega,by omega,qdz hr1_3 hz21 (by dsimp only;rw[List.take_length];exact hb16)⟩ (by dsimp only;omega)
     ·refine qag (by omega) fun n20 hn20=>?_
      refine W_rs (by first|rfl|omega|(simp<;>omega)) ?_
      exact ihr1.use _ ⟨_,_,_,_,_,_,rfl,by omega,by omega,by omega,hr1_3⟩ (by dsimp only;omega)
    ·refine W_if (fun c9=>?_) fun c9=>?_
     ·refine qag (by omega) fun n15 hn15=>?_
      refine W_rs (by first|rfl|omega|(simp<;>omega)) ?_
      exact ihr1.use _ ⟨_,_,_,_,_,_,rfl,by omega,by omega,by omega,hr1_3⟩ (by dsimp only;omega)
     ·refine W_if (fun c11=>?_) fun c11=>?_
      ·refine qae (by first|omega|(rw[List.length_drop];omega)|(simp<;>omega)) ?_
       refine qac fun z13 hz13=>?_
       have lz13:=congrArg List.length hz13;try simp at lz13
       refine qag (by omega) fun n14 hn14=>?_
       refine W_rs (by first|rfl|omega|(simp<;>omega)) ?_
       exact ihr1.use _ ⟨_,_,_,_,_,_,rfl,by omega,by omega,by omega,hr1_3⟩ (by dsimp only;omega)
      ·refine qag (by omega) fun n12 hn12=>?_
       refine W_rs (by first|rfl|omega|(simp<;>omega)) ?_
       exact ihr1.use _ ⟨_,_,_,_,_,_,rfl,by omega,by omega,by omega,hr1_3⟩ (by dsimp only;omega)
   ·refine qaa ?_
    first|(simp;done)|(dsimp only;rw[List.take_length];exact⟨hr1_3,by omega⟩)
theorem q1q {b:List UInt8}(p0:b.length≤1000000):W (qpM b) (fun r=>(∀ m∈r.1,m.body.length≤512)∧(r.1.length:Int)≤b.length∧-1≤r.2.1∧r.2.1≤b.length):=by
 unfold qpM qlk
 refine W_if (fun c1=>?_) fun c1=>?_
 ·refine qaa ?_
  exact⟨by simp,by simp,by dsimp only;omega⟩
 ·refine qab (q4D) ?_
  rintro⟨b1,b2,b3⟩ hb1
  try dsimp only at hb1
  refine qab (qyY (by first|omega|assumption|(simp<;>omega))) ?_
  rintro⟨z4,n5⟩ hz4
  try dsimp only at hz4
  refine qab (qhf (by first|omega|assumption|(simp<;>omega))) ?_
  rintro n6 hn6
  refine qaa ?_
  exact⟨hz4.1,hz4.2,by dsimp only;omega⟩
theorem qvN {m:Msg}(p0:m.body.length≤1000000):W (qhM m) (fun r=>r.1.length≤600):=by
 unfold qhM qbt
 have u:=qca m.seq
 refine W_if (fun c1=>?_) fun c1=>?_
 ·refine qaa ?_
  first|(simp;done)|(dsimp only;omega)
 ·refine W_wu (by omega) fun n1 hn1=>?_
  refine qab (qvK (by first|omega|assumption|(simp<;>omega)) (by first|omega|assumption|(simp<;>omega))) ?_
  rintro⟨z2,n3⟩ hz2
  try dsimp only at hz2
  refine qax (fun((z17,_),_,_)=>(z17.length≤530∧True)) (fun J4 hJ4=>?_) ?_
  ·refine W_sm ?_
   refine qae (by first|omega|(rw[List.length_drop];omega)|(simp<;>omega)) ?_
   refine qac fun z5 hz5=>?_
   have lz5:=congrArg List.length hz5;try simp at lz5
   rw[ap0,List.take_length] at hz5
   have l5:=congrArg List.length hz5;rw[List.length_cons] at l5
   refine qae (by first|omega|(rw[List.length_drop];omega)|(simp<;>omega)) ?_
   refine qac fun z6 hz6=>?_
   have lz6:=congrArg List.length hz6;try simp at lz6
   have l6:=congrArg List.length hz6;rw[List.length_append,List.length_take] at l6
   refine W_rs (by first|rfl|omega|(simp<;>omega)) ?_
   exact hJ4.use _ (by dsimp only;exact⟨by omega,trivial⟩)
  ·rintro⟨⟨z17,_⟩,_,_⟩ kJ4;dsimp only at kJ4
   refine qab (q34 (by first|omega|assumption|(simp<;>omega))) ?_
   rintro n18 hn18
   refine W_wu (by omega) fun n19 hn19=>?_
   refine qab (qvK (by first|omega|assumption|(simp<;>omega)) (by first|omega|assumption|(simp<;>omega))) ?_
   rintro⟨z20,n21⟩ hz20
   try dsimp only at hz20
   refine W_rm (by first|omega|(rw[List.length_drop];omega)|(simp<;>omega)) ?_
   refine qac fun z22 hz22=>?_
   have lz22:=congrArg List.length hz22;try simp at lz22
   refine W_rs (by first|rfl|omega|(simp<;>omega)) ?_
   refine qaa ?_
   first|(simp;done)|(dsimp only;omega)
theorem qyZ {m:Msg}(p0:m.body.length≤1000000):W (qg5 m) (fun r=>r.1.length≤1300):=by
 unfold qg5 qhV
 refine qab (qvN (by first|omega|assumption|(simp<;>omega))) ?_
 rintro⟨z1,n2⟩ hz1
 try dsimp only at hz1
 refine W_if (fun c1=>?_) fun c1=>?_
 ·refine qaa ?_
  first|(simp;done)|(dsimp only;omega)
 ·refine qab (qyW (by rw[List.take_length];omega)) ?_
  rintro z3 hz3
  rw[List.take_length] at hz3
  refine qae (by first|omega|(rw[List.length_drop];omega)|(simp<;>omega)) ?_
  refine qac fun z4 hz4=>?_
  have lz4:=congrArg List.length hz4;try simp at lz4
  rw[ap0,List.take_length] at hz4
  have l4:=congrArg List.length hz4;rw[List.length_cons] at l4
  refine qae (by first|omega|(rw[List.length_drop];omega)|(simp<;>omega)) ?_
  refine qac fun z5 hz5=>?_
  have lz5:=congrArg List.length hz5;try simp at lz5
  have l5:=congrArg List.length hz5;rw[List.length_append,List.length_take,List.length_singleton] at l5
  refine W_rs (by first|rfl|omega|(simp<;>omega)) ?_
  refine qaa ?_
  first|(simp;done)|(dsimp only;omega)
end Go.Proofs.YtcdppfnjidlknaaGreatDoor
namespace Go.Proofs.YtcdppfnjidlknaaGreatDoor
open Go Go.Eng Go.Proofs Go.Wp
set_option maxRecDepth 20000
theorem rep16:(List.range 17).all (fun k=>decide (qe5 [UInt8.ofNat 4] (k:Int)=some (List.replicate k (UInt8.ofNat 4))))=true:=by kernel_rfl
theorem rep_w {n:Int}(h:0≤n∧n≤16):qe5 [UInt8.ofNat 4] n=some (List.replicate n.toNat (UInt8.ofNat 4)):=by
  have:=List.all_eq_true.1 rep16 n.toNat (List.mem_range.2 (by omega))
  rw[decide_eq_true_eq,Int.toNat_of_nonneg h.1] at this
  exact this
theorem rep4 {n k:Nat}(h:k<n):La (List.replicate n (UInt8.ofNat 4)) k=4:=by
  unfold La
  rw[List.getD_eq_getElem?_getD,List.getElem?_replicate,if_pos h];rfl
theorem q1r {t:SiteT}{t2:LocT}{t3:Inp}{t4:List Put}{t5:List Pls}{t6:List UInt8}{t7:List UInt8}{t8:List UInt8}(p0:SG t)(p1:LOk t t2):W (qqj t t2 t3 t4 t5 t6 t7 t8) (fun r=>(t,t2,t3,t5,t6,t7,t8)=(r.1,r.2.1,r.2.2.1,r.2.2.2.2)∧(t4=r.2.2.2.1∨r.2.2.2.1.length≤32∧∀ p∈r.2.2.2.1,p.data.length=64)):=by
 unfold qqj qlt
 have dk:=p1.disk
 have rg:=p1.rung
 have td:=p1.told
 refine qab (qeL (by first|omega|assumption|(simp<;>omega))) ?_
 rintro⟨n1,n2,n3,z4⟩ hn1
 try dsimp only at hn1
 refine qae (by first|omega|(rw[List.length_drop];omega)|(simp<;>omega)) ?_
 refine qac fun x5 hx5=>?_
 refine W_if (fun c2=>?_) fun c2=>?_
 ·refine qab (q1y (by have:=(hn1.1.2 x5 (by rw[hx5];exact qck (n:=0) (by omega))).1;omega)) ?_
  rintro b8 hb8
  refine W_if (fun c3=>?_) fun c3=>?_
  ·refine qaa ?_
   exact⟨rfl,.inl rfl⟩
  ·refine qab (qt3 (by omega) (by omega) (by simp;omega)) ?_
   rintro⟨z9,n10⟩ hz9
   try dsimp only at hz9
   refine qaa ?_
   exact⟨rfl,.inr hz9⟩
 ·refine qab (qt3 (by omega) (by omega) (by simp;omega)) ?_
  rintro⟨z6,n7⟩ hz6
  try dsimp only at hz6
  refine qaa ?_
  exact⟨rfl,.inr hz6⟩
theorem qij {t:SiteT}{t2:LocT}{t3:Inp}{t4:List Put}{t5:List Pls}{t6:List UInt8}{t7:List UInt8}{t8:List UInt8}(p0:SG t):W (qf7 t t2 t3 t4 t5 t6 t7 t8) (fun r=>(List.replicate t.groups.length (UInt8.ofNat 4),t,t2,t3,t4,t5,t6,t7,t8)=r):=by
 unfold qf7 qlh
 obtain⟨⟨q1,q2,q3,q4,q5,q6,q7,q8⟩,q9⟩:=p0.ok.shape
 refine qbx (rep_w (by omega)) ?_
 refine qaa ?_
 rw[List.take_length,Int.toNat_natCast]
theorem q4E {t:TickT}(p0:SG t.site)(p1:t.loc.gaps.length=t.site.eyes.length):W (qvw t) (fun _=>True):=by
 unfold qvw qpC
 obtain⟨⟨q1,q2,q3,q4,q5,q6,q7,q8⟩,q9⟩:=p0.ok.shape
 refine qaj (fun v=>∃ n3 n6,v=((),(),t,n3,t.site.phases,(t.site.phases.length:Int),n6,())∧(0≤n6∧n6≤(t.site.phases.length:Int))) (fun(_,_,_,n3,_,_,n6,_)=>((t.site.phases.length:Int)-n6).toNat) ⟨_,_,rfl,by first|omega|(simp<;>omega)⟩ (by simp only[NN];omega) ?_
 rintro r1 _ ⟨n3,n6,rfl,hr1_0⟩ ihr1
 refine W_if (fun c1=>?_) fun c1=>?_
 ·refine W_ix (by omega) fun x7 hx7=>?_
  refine qaj (fun v=>∃ b13 n19,v=((),((x7,()),()),t,n3,n6,b13,t.site.phases,(t.site.phases.length:Int),n6,t.site.eyes,(t.site.eyes.length:Int),n19,())∧(0≤n19∧n19≤(t.site.eyes.length:Int))) (fun(_,((_,_),_),_,_,_,b13,_,_,_,_,_,n19,_)=>((t.site.eyes.length:Int)-n19).toNat) ⟨_,_,rfl,by first|omega|(simp<;>omega)⟩ (by simp only[NN];omega) ?_
  rintro r8 _ ⟨b13,n19,rfl,hr8_0⟩ ihr8
  refine W_if (fun c2=>?_) fun c2=>?_
  ·refine W_ix (by omega) fun x24 hx24=>?_
   refine W_ix (by omega) fun x25 hx25=>?_
   refine qab (q7v) ?_
   rintro⟨b26,n27⟩ hb26
   try dsimp only at hb26
   refine qag (by omega) fun n28 hn28=>?_
   exact ihr8.use _ ⟨_,_,rfl,by first|omega|(simp<;>omega)⟩ (by dsimp only;omega)
  ·refine W_if (fun c3=>?_) fun c3=>?_
   ·refine qae (by first|omega|(rw[List.length_drop];omega)|(simp<;>omega)) ?_
    refine qac fun n21 hn21=>?_
    refine qac fun n22 hn22=>?_
    refine qag (by omega) fun n23 hn23=>?_
    exact ihr1.use _ ⟨_,_,rfl,by first|omega|(simp<;>omega)⟩ (by dsimp only;omega)
   ·refine qag (by omega) fun n20 hn20=>?_
    exact ihr1.use _ ⟨_,_,rfl,by first|omega|(simp<;>omega)⟩ (by dsimp only;omega)
 ·refine qaa ?_
  trivial
theorem q7h {t:SiteT}{t2:LocT}{t3:Inp}{t4:List Put}{t5:List Pls}{t6:List UInt8}{t7:List UInt8}{t8:List UInt8}{k:Int}{k2:Int}{k3:List Plan}(p0:SG t)(p1:LOk t t2)(p2:t2.mode=2→0<k3.length)(p3:∀ p∈k3,p.splits.length≤8):W (qqr t t2 t3 t4 t5 t6 t7 t8 k k2 k3) (fun r=>∃ ph si asks,r=(t,{t2 with phase:=ph,since:=si},t3,t4,t5,asks,t7,t8)∧((0≤ph∧ph<t.phases.length)∧0≤si∧si≤1048576)∧asks.length=t.groups.length∧(t2.mode=0→AllF asks)∧(t2.mode≠0→FA (fun i=>La asks i=1∨La asks i=2) t.groups.length)):=by
 unfold qqr qvF
 obtain⟨⟨q1,q2,q3,q4,q5,q6,q7,q8⟩,q9⟩:=p0.ok.shape
 have td:=p1.told
 have sq:=p1.seq
 refine W_if (fun c1=>?_) fun c1=>?_
 ·refine qab (qij (by first|omega|assumption|(simp<;>omega))) ?_
  rintro⟨z26,x27,x28,x29,z30,z31,z32,z33,z34⟩ hz26
  try dsimp only at hz26
  simp only[Prod.mk.injEq] at hz26;obtain⟨rfl,rfl,rfl,rfl,rfl,rfl,rfl,rfl,rfl⟩:=hz26
  refine qaa ?_
  exact⟨t2.phase,t2.since,_,rfl,sq,by simp,fun _=>fun k hk=>rep4 (by simpa using hk),fun e=>absurd c1 e⟩
 ·refine W_if (fun c2=>?_) fun c2=>?_
  ·refine qax (fun(_,((x18,x19,x20,z21,z22,z23,z24,z25,_),_),_)=>t=x18∧t3=x20∧t4=z21∧t5=z22∧t7=z24∧t8=z25∧(∃ ph si,x19={t2 with phase:=ph,since:=si}∧((0≤ph∧ph<t.phases.length)∧0≤si∧si≤1048576)∧z23.length=t.groups.length∧FA (fun i=>La z23 i=1∨La z23 i=2) t.groups.length)) (fun J12 hJ12=>?_) ?_
   ·refine qab (q4E p0 p1.gaps) ?_
    rintro n13 hn13
    refine qab (q7y p0 sq p1.now.1) ?_
    rintro⟨z14,n15,n16,n17⟩ hz14
    try dsimp only at hz14
    exact hJ12.use _ (by dsimp only;exact⟨rfl,rfl,rfl,rfl,rfl,rfl,n16,n17,rfl,⟨hz14.2.1,hz14.2.2⟩,hz14.1.1,hz14.1.2⟩)
   ·rintro⟨_,⟨⟨x18,x19,x20,z21,z22,z23,z24,z25,_⟩,_⟩,_⟩ kJ12;dsimp only at kJ12
    obtain⟨rfl,rfl,rfl,rfl,rfl,rfl,kJ12⟩:=kJ12
    refine qaa ?_
    obtain⟨ph,si,rfl,h1,h2⟩:=kJ12
    exact⟨ph,si,_,rfl,h1,h2.1,fun e=>absurd e c1,fun _=>h2.2⟩
  ·refine W_if (fun c3=>?_) fun c3=>?_
   ·refine qae (by first|omega|(rw[List.length_drop];omega)|(simp<;>omega)) ?_
    refine qac fun x5 hx5=>?_
    have g5:=p3 x5 (by rw[hx5];exact qck (n:=0) (by have:=p2 c3;omega))
    refine qab (qim p0 (by omega)) ?_
    rintro⟨n6,x7⟩ hn6
    try dsimp only at hn6
    refine qab (qq9 p0 (by omega)) ?_
    rintro⟨n8,n9⟩ hn8
    try dsimp only at hn8
    refine qab (qdO (by first|omega|assumption|(simp<;>omega))) ?_
    rintro⟨z10,n11⟩ hz10
    try dsimp only at hz10
    refine qaa ?_
    exact⟨n8,0,_,rfl,⟨hn8,by omega⟩,(hz10 hn8).1,fun e=>absurd e c1,fun _=>(hz10 hn8).2⟩
   ·refine qab (qq9 p0 (by dsimp only;omega)) ?_
    rintro⟨n1,n2⟩ hn1
    try dsimp only at hn1
    refine qab (qdO (by first|omega|assumption|(simp<;>omega))) ?_
    rintro⟨z3,n4⟩ hz3
    try dsimp only at hz3
    refine qaa ?_
    exact⟨n1,0,_,rfl,⟨hn1,by omega⟩,(hz3 hn1).1,fun e=>absurd e c1,fun _=>(hz3 hn1).2⟩
theorem q4F {t:SiteT}{t2:LocT}{t3:Inp}{t4:List Put}{t5:List Pls}{t6:List UInt8}{t7:List UInt8}{t8:List UInt8}(p0:SG t)(p1:LOk t t2)(p2:t3.bytesf.length≤1000000000):W (qgZ t t2 t3 t4 t5 t6 t7 t8) (fun r=>∃ an la lg re cy og sp,r.2=(t,{t2 with any:=an,last:=la,lage:=lg,rest:=re,cycle:=cy,offset:=og,splits:=sp,age:=if r.1=true then 0 else min (t2.age+1) 1048576},t3,t4,t5,t6,t7,t8)∧re.length≤2048∧sp.length≤8∧((0≤lg∧lg≤1048576)∧(0≤la∧la<4294967296)∧(an=false→la=0))):=by
 unfold qgZ qqp
 obtain⟨⟨q1,q2,q3,q4,q5,q6,q7,q8⟩,q9⟩:=p0.ok.shape
 have td:=p1.told
 have rs:=p1.rest
 have lk:=p1.link
 have ag:=p1.age
 refine qac fun n1 hn1=>?_
 refine qae (by first|omega|(rw[List.length_drop];omega)|(simp<;>omega)) ?_
 refine qae (by first|omega|(rw[List.length_drop];omega)|(simp<;>omega)) ?_
 refine qab (qrn (by simp) (by simp;omega)) ?_
 rintro z2 hz2
 have l2:=congrArg List.length hz2;simp at l2
 refine qab (q1q (by rw[List.take_length];omega)) ?_
 rintro⟨z3,n4,n5⟩ hz3
 try dsimp only at hz3
 rw[List.take_length] at hz3
 refine W_wi (by (rw[List.take_length];omega)) fun n6 hn6=>?_
 rw[List.take_length] at hn6
 refine W_if (fun c3=>?_) fun c3=>?_
 ·refine qae (by first|omega|(rw[List.length_drop];omega)|(simp<;>omega)) ?_
  refine qae (by first|omega|(rw[List.length_drop];omega)|(simp<;>omega)) ?_
  refine qab (qeI (by rw[List.length_drop,List.take_length];omega)) ?_
  rintro z36 hz36
  have l36:=congrArg List.length hz36;rw[List.length_drop,List.take_length] at l36
  refine qab (qtB lk (by omega)) ?_
  rintro⟨z37,n38,b39,n40,n41⟩ hz37
  try dsimp only at hz37
  refine qaj (fun v=>∃ x44 b51 n54,v=((),((t,x44,t3,t4,t5,t6,t7,t8,()),()),b51,z37,(z37.length:Int),n54,())∧(0≤n54∧n54≤(z37.length:Int))∧(∃ cy og sp,x44={t2 with any:=b39,last:=n40,lage:=n41,rest:=List.take z36.length z36,cycle:=cy,offset:=og,splits:=sp}∧sp.length≤8)) (fun(_,((_,x44,_,_,_,_,_,_,_),_),b51,_,_,n54,_)=>((z37.length:Int)-n54).toNat) ⟨_,_,_,rfl,by omega,⟨t2.cycle,t2.offset,t2.splits,rfl,td⟩⟩ (by simp only[NN];omega) ?_
  rintro r42 _ ⟨x44,b51,n54,rfl,hr42_0,hr42_1⟩ ihr42
  obtain⟨cy,og,sp,rfl,hs⟩:=hr42_1
  refine W_if (fun c6=>?_) fun c6=>?_
  ·refine W_ix (by omega) fun x56 hx56=>?_
   have b56:=qam (d:=dflt 8) (n:=n54) hz37.2.1 (by omega)
   rw[← hx56] at b56
   refine qab (qfM (by first|omega|assumption|(simp<;>omega))) ?_
   rintro⟨n57,n58,n59,n60,z61⟩ hn57
   try dsimp only at hn57
   refine W_if (fun c7=>?_) fun c7=>?_
   ·refine qab (qim p0 (by dsimp only;omega)) ?_
    rintro⟨n63,x64⟩ hn63
    try dsimp only at hn63
    refine qag (by omega) fun n65 hn65=>?_
    exact ihr42.use _ ⟨_,_,_,rfl,by omega,⟨x64.cycle,x64.offset,x64.splits,rfl,by omega⟩⟩ (by dsimp only;omega)
   ·refine qag (by omega) fun n62 hn62=>?_
    exact ihr42.use _ ⟨_,_,_,rfl,by omega,⟨cy,og,sp,rfl,hs⟩⟩ (by dsimp only;omega)
  ·refine qab (qa2 (by dsimp only;omega) (by dsimp only;omega)) ?_
   rintro n55 hn55
   refine W_if (fun c8=>?_) fun c8=>?_
   ·refine qaa ?_
    exact⟨b39,n40,n41,_,cy,og,sp,by dsimp only;rw[if_pos (by assumption)],by rw[List.take_length];omega,hs,hz37.2.2⟩
   ·refine qaa ?_
    exact⟨b39,n40,n41,_,cy,og,sp,by dsimp only;rw[if_neg (by assumption),hn55],by rw[List.take_length];omega,hs,hz37.2.2⟩
 ·refine qab (qtB lk (by omega)) ?_
  rintro⟨z7,n8,b9,n10,n11⟩ hz7
  try dsimp only at hz7
  refine qaj (fun v=>∃ x14 b21 n24,v=((),((t,x14,t3,t4,t5,t6,t7,t8,()),()),b21,z7,(z7.length:Int),n24,())∧(0≤n24∧n24≤(z7.length:Int))∧(∃ cy og sp,x14={t2 with any:=b9,last:=n10,lage:=n11,rest:=qal,cycle:=cy,offset:=og,splits:=sp}∧sp.length≤8)) (fun(_,((_,x14,_,_,_,_,_,_,_),_),b21,_,_,n24,_)=>((z7.length:Int)-n24).toNat) ⟨_,_,_,rfl,by omega,⟨t2.cycle,t2.offset,t2.splits,rfl,td⟩⟩ (by simp only[NN];omega) ?_
  rintro r12 _ ⟨x14,b21,n24,rfl,hr12_0,hr12_1⟩ ihr12
  obtain⟨cy,og,sp,rfl,hs⟩:=hr12_1
  refine W_if (fun c9=>?_) fun c9=>?_
  ·refine W_ix (by omega) fun x26 hx26=>?_
   have b26:=qam (d:=dflt 8) (n:=n24) hz7.2.1 (by omega)
   rw[← hx26] at b26
   refine qab (qfM (by first|omega|assumption|(simp<;>omega))) ?_
   rintro⟨n27,n28,n29,n30,z31⟩ hn27
   try dsimp only at hn27
   refine W_if (fun c10=>?_) fun c10=>?_
   ·refine qab (qim p0 (by dsimp only;omega)) ?_
    rintro⟨n33,x34⟩ hn33
    try dsimp only at hn33
    refine qag (by omega) fun n35 hn35=>?_
    exact ihr12.use _ ⟨_,_,_,rfl,by omega,⟨x34.cycle,x34.offset,x34.splits,rfl,by omega⟩⟩ (by dsimp only;omega)
   ·refine qag (by omega) fun n32 hn32=>?_
    exact ihr12.use _ ⟨_,_,_,rfl,by omega,⟨cy,og,sp,rfl,hs⟩⟩ (by dsimp only;omega)
  ·refine qab (qa2 (by dsimp only;omega) (by dsimp only;omega)) ?_
   rintro n25 hn25
   refine W_if (fun c11=>?_) fun c11=>?_
   ·refine qaa ?_
    exact⟨b9,n10,n11,_,cy,og,sp,by dsimp only;rw[if_pos (by assumption)],by simp,hs,hz7.2.2⟩
   ·refine qaa ?_
    exact⟨b9,n10,n11,_,cy,og,sp,by dsimp only;rw[if_neg (by assumption),hn25],by simp,hs,hz7.2.2⟩
theorem q7i {t:SiteT}{t2:LocT}{t3:Inp}{t4:List Put}{t5:List Pls}{t6:List UInt8}{t7:List UInt8}{t8:List UInt8}(p0:SG t)(p1:LOk t t2)(p2:0≤t3.eyesf∧t3.eyesf<4294967296):W (qqq t t2 t3 t4 t5 t6 t7 t8) (fun r=>∃ pu ey ga ca wa,r=(t,{t2 with pulses:=pu,eyes:=ey,gaps:=ga,calls:=ca},t3,t4,wa,t6,t7,t8)∧pu.length=t.eyes.length∧ga.length=t.eyes.length∧wa.length=t.eyes.length∧ey.length≤1000):=by
 unfold qqq qvE
 obtain⟨⟨q1,q2,q3,q4,q5,q6,q7,q8⟩,q9⟩:=p0.ok.shape
 have lp:=p1.pulses
 have lg:=p1.gaps
 have le:=p1.eyes
 have ln:=p1.now.1
 refine qab (qhs (by first|omega|assumption|(simp<;>omega))) ?_
 rintro z1 hz1
 have l1:=congrArg List.length hz1
 refine qab (qhs (by first|omega|assumption|(simp<;>omega))) ?_
 rintro z2 hz2
 have l2:=congrArg List.length hz2
 refine qab (qqx (by first|omega|assumption|(simp<;>omega))) ?_
 rintro z3 hz3
 have l3:=congrArg List.length hz3
 refine W_rs (by first|rfl|omega|(simp<;>omega)) ?_
 refine W_rs (by first|rfl|omega|(simp<;>omega)) ?_
 refine qaj (fun v=>∃ z5 z6 n39 n41,v=((z5,z6,()),((t,t2.disk,t2.seen,t2.start,t2.flashed,t2.mode,t2.well,t2.latched,t2.phase,t2.since,t2.any,t2.last,t2.lage,t2.rest,t2.cycle,t2.offset,t2.splits,t2.age,t2.eyes,t2.calls,t2.wrong,t2.tick,t2.greens,t2.busy,t2.came,t2.sent,t3,t4,(List.take z1.length z1),t6,t7,t8,()),()),n39,(z2.length:Int),n41,())∧(0≤n41∧n41≤(z2.length:Int))∧(z5.length=z2.length)∧(z6.length=z2.length)∧(0≤n39∧n39<4294967296)) (fun((z5,z6,_),((_,_,_,_,_,_,_,_,_,_,_,_,_,_,_,_,_,_,_,_,_,_,_,_,_,_,_,_,_,_,_,_,_),_),n39,_,n41,_)=>((z2.length:Int)-n41).toNat) ⟨_,_,_,_,rfl,by omega,rfl,by omega,by omega⟩ (by simp only[NN];omega) ?_
 rintro r4 _ ⟨z5,z6,n39,n41,rfl,hr4_0,hr4_1,hr4_2,hr4_3⟩ ihr4
 refine W_if (fun c3=>?_) fun c3=>?_
 ·refine W_rb (by first|omega|(rw[List.length_drop];omega)|(simp<;>omega)) ?_
  refine qae (by first|omega|(rw[List.length_drop];omega)|(simp<;>omega)) ?_
  refine qae (by first|omega|(rw[List.length_drop];omega)|(simp<;>omega)) ?_
  refine qac fun n50 hn50=>?_
  refine qac fun n51 hn51=>?_
  refine qab (q18) ?_
  rintro⟨n52,x53⟩ hn52
  try dsimp only at hn52
  refine W_rb (by first|omega|(rw[List.length_drop];omega)|(simp<;>omega)) ?_
  refine qae (by first|omega|(rw[List.length_drop];omega)|(simp<;>omega)) ?_
  refine qac fun z54 hz54=>?_
  have lz54:=congrArg List.length hz54;try simp at lz54
  have m54:z54.length=z5.length:=by rw[hz54,List.length_set]
  refine W_rb (by first|omega|(rw[List.length_drop];omega)|(simp<;>omega)) ?_
  refine qae (by first|omega|(rw[List.length_drop];omega)|(simp<;>omega)) ?_
  refine W_rb (by first|omega|(rw[List.length_drop];omega)|(simp<;>omega)) ?_
  refine qae (by first|omega|(rw[List.length_drop];omega)|(simp<;>omega)) ?_
  refine qab (q7u) ?_
  rintro⟨n55,x56⟩ hn55
  try dsimp only at hn55
  refine W_rb (by first|omega|(rw[List.length_drop];omega)|(simp<;>omega)) ?_
  refine qae (by first|omega|(rw[List.length_drop];omega)|(simp<;>omega)) ?_
  refine qac fun z57 hz57=>?_
  have lz57:=congrArg List.length hz57;try simp at lz57
  have m57:z57.length=z6.length:=by rw[hz57,List.length_set]
  refine W_rb (by first|omega|(rw[List.length_drop];omega)|(simp<;>omega)) ?_
  refine qae (by first|omega|(rw[List.length_drop];omega)|(simp<;>omega)) ?_
  refine W_if (fun c17=>?_) fun c17=>?_
  ·refine qae (by first|omega|(rw[List.length_drop];omega)|(simp<;>omega)) ?_
   refine qac fun n59 hn59=>?_
   refine qac fun n60 hn60=>?_
   have u60:=qzt .or n39 n59
   rw[← hn60] at u60
   refine qag (by omega) fun n61 hn61=>?_
   refine W_rs (by first|rfl|omega|(simp<;>omega)) ?_
   refine W_rs (by first|rfl|omega|(simp<;>omega)) ?_
   exact ihr4.use _ ⟨_,_,_,_,rfl,by first|omega|(simp<;>omega),by first|omega|(simp<;>omega),by first|omega|(simp<;>omega),by first|omega|(simp<;>omega)⟩ (by dsimp only;omega)
  ·refine qag (by omega) fun n58 hn58=>?_
   refine W_rs (by first|rfl|omega|(simp<;>omega)) ?_
   refine W_rs (by first|rfl|omega|(simp<;>omega)) ?_
   exact ihr4.use _ ⟨_,_,_,_,rfl,by first|omega|(simp<;>omega),by first|omega|(simp<;>omega),by first|omega|(simp<;>omega),by first|omega|(simp<;>omega)⟩ (by dsimp only;omega)
 ·refine qab (eyeAll_w p0 le hr4_3) ?_
  rintro⟨z42,n43⟩ hz42
  try dsimp only at hz42
  refine qab (ql6 (by first|omega|assumption|(simp<;>omega)) (by first|omega|assumption|(simp<;>omega))) ?_
  rintro⟨b44,n45⟩ hb44
  try dsimp only at hb44
  refine W_if (fun c23=>?_) fun c23=>?_
  ·refine qab (qt8 (by first|omega|assumption|(simp<;>omega)) (by first|omega|assumption|(simp<;>omega))) ?_
   rintro⟨n48,n49⟩ hn48
   try dsimp only at hn48
   refine qaa ?_
   exact⟨_,_,_,_,_,rfl,by rw[List.take_length];omega,by rw[List.take_length];omega,by rw[List.take_length];omega,hz42.2⟩
  ·refine qab (qt8 (by first|omega|assumption|(simp<;>omega)) (by first|omega|assumption|(simp<;>omega))) ?_
   rintro⟨n46,n47⟩ hn46
   try dsimp only at hn46
   refine qaa ?_
   exact⟨_,_,_,_,_,rfl,by rw[List.take_length];omega,by rw[List.take_length];omega,by rw[List.take_length];omega,hz42.2⟩
end Go.Proofs.YtcdppfnjidlknaaGreatDoor
