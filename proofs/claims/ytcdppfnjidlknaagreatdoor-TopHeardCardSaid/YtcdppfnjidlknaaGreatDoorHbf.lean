import Derived.Test.YtcdppfnjidlknaaGreatDoorHbe
set_option linter.unusedVariables false
set_option linter.unusedSimpArgs false
namespace Go.Proofs.YtcdppfnjidlknaaGreatDoor
open Go Go.Eng Go.Proofs Go.Wp
def Cn (l:List Int) (n:Nat):Prop:=l.length=n∧∀ x∈l,0≤x∧x≤1048576
structure LOk (s:SiteT) (x:LocT):Prop where
  disk:x.disk.length≤1000000
  now:qby s x.seen x.start x.flashed
  rung:(0≤x.mode∧x.mode≤3)∧0≤x.well∧x.well≤1048576
  lat:(x.latched=true→x.mode=0∧x.well=0)∧(x.latched=false→1≤x.mode)
  seq:(0≤x.phase∧x.phase<s.phases.length)∧0≤x.since∧x.since≤1048576
  link:(0≤x.lage∧x.lage≤1048576)∧(0≤x.last∧x.last<4294967296)∧(x.any=false→x.last=0)
  rest:x.rest.length≤2048
  told:x.splits.length≤8
  age:0≤x.age∧x.age≤1048576
  wrong:0≤x.wrong∧x.wrong≤1048576
  pulses:x.pulses.length=s.eyes.length
  gaps:x.gaps.length=s.eyes.length
  eyes:x.eyes.length≤1000
  greens:Cn x.greens s.phases.length
  busy:Cn x.busy s.phases.length
  came:Cn x.came s.phases.length
  tick:0≤x.tick∧x.tick≤1073741824
  sent:0≤x.sent∧x.sent<4294967296
structure LNew (s:SiteT) (x:LocT):Prop where
  ok:LOk s x
  mode:x.mode=1∨x.mode=2
  well:x.well=0
  lat:x.latched=false
  start:IsG s x.start
  seen:x.seen=List.replicate s.groups.length ⟨1,1,1048576⟩
  fl:x.flashed=false
  told:x.cycle=0∧x.offset=0∧x.splits=[]
  age:x.age=1048576
  wrong:x.wrong=0
  tick:x.tick=0
  link:x.any=false∧x.last=0∧x.lage=0∧x.rest=[]
theorem ql6 {α:Type} {o:Option α} {P:α→Prop} (h:W o P):W o (fun r=>P r∧o=some r):=by
  obtain⟨r,e,p⟩:=h
  exact⟨r,e,p,e⟩
theorem cn0 (n:Nat):Cn (List.replicate n 0) n:=⟨by simp,fun x hx=>by rw[(List.mem_replicate.1 hx).2];omega⟩
theorem first_ok {s:SiteT} {z:List SeenT} {st:Int} (h:SOk s) (e:z=List.replicate s.groups.length ⟨1,1,1048576⟩) (g:IsG s st):qby s z st false:=by
  have q:∀ i:Nat,(i:Int)<s.groups.length→As z i=1:=by
    intro i hi
    subst e
    unfold As
    rw[List.getD_eq_getElem?_getD,List.getElem?_replicate,if_pos (by omega)];rfl
  refine⟨by rw[e,List.length_replicate],g.1,fun h=>by simp at h,fun _=>⟨fun i hi=>by have:=q i hi;dsimp only;omega,fun _ i hi=>q i hi,fun a ha b hb _=>.inl (q a ha)⟩⟩
theorem qeO {s:SiteT} {d:List UInt8} (p0:SG s) (p1:d.length≤1000000):W (qcM s d) (fun r=>LNew s r):=by
 unfold qcM qbx
 obtain⟨⟨q1,q2,q3,q4,q5,q6,q7,q8⟩,q9⟩:=p0.ok.shape
 refine qab (qeN (by first|omega|assumption|(simp<;>omega))) ?_
 rintro⟨n1,n2,n3,z4⟩ hn1
 try dsimp only at hn1
 refine qab (q1X (by first|omega|assumption|(simp<;>omega))) ?_
 rintro⟨n5,z6,n7,b8⟩ hn5
 try dsimp only at hn5
 refine qaz (fun(_,((x21,_),(x22,_),(x23,_),_),_)=>s=x21∧(dflt 26)=x22∧(x23={(dflt 26:LocT) with disk:=d,seen:=z6,start:=n7,flashed:=b8,mode:=(if n3=2∨n3=3 then 2 else 1),well:=0,latched:=false,age:=(1048576:Int)})) (fun J9 hJ9=>?_) ?_
 ·refine W_sm ?_
  refine qab (qeK (by first|omega|assumption|(simp<;>omega))) ?_
  rintro z10 hz10
  refine W_sm ?_
  refine qab (qwe) ?_
  rintro⟨n11,n12,b13⟩ hn11
  try dsimp only at hn11
  exact hJ9.use _ (by dsimp only;exact⟨rfl,rfl,by simp only[Prod.mk.injEq] at hn11;rw[hn11.1,hn11.2.1,hn11.2.2,hz10,List.take_length]⟩)
 ·rintro⟨_,⟨⟨x21,_⟩,⟨x22,_⟩,⟨x23,_⟩,_⟩,_⟩ kJ9;dsimp only at kJ9
  obtain⟨rfl,rfl,kJ9⟩:=kJ9
  refine qaz (fun(_,((x25,_),(x26,_),_),n27,_)=>(dflt 26)=x25∧{x23 with pulses:=List.take (s.eyes.length:Int).toNat (List.replicate (s.eyes.length:Int).toNat {upf:=false,rawf:=false,sincef:=(0:Int):Pls}),eyes:=List.take (s.eyes.length:Int).toNat (List.replicate (s.eyes.length:Int).toNat (dflt 23)),gaps:=List.take (s.eyes.length:Int).toNat (List.replicate (s.eyes.length:Int).toNat (dflt 22))}=x26∧(s.phases.length:Int)=n27∧(True)) (fun J24 hJ24=>?_) ?_
  ·refine W_sm ?_
   refine qwq (by first|omega|(rw[List.length_drop];omega)|(simp<;>omega)) ?_
   refine W_sm ?_
   refine qwq (by first|omega|(rw[List.length_drop];omega)|(simp<;>omega)) ?_
   refine W_sm ?_
   refine qwq (by first|omega|(rw[List.length_drop];omega)|(simp<;>omega)) ?_
   exact hJ24.use _ (by dsimp only;exact⟨rfl,rfl,rfl,by first|trivial|omega⟩)
  ·rintro⟨_,⟨⟨x25,_⟩,⟨x26,_⟩,_⟩,n27,_⟩ kJ24;dsimp only at kJ24
   obtain⟨rfl,rfl,rfl,kJ24⟩:=kJ24
   refine qaz (fun(_,((x29,_),(x30,_),_),_)=>(dflt 26)=x29∧{({x23 with pulses:=List.take (s.eyes.length:Int).toNat (List.replicate (s.eyes.length:Int).toNat {upf:=false,rawf:=false,sincef:=(0:Int):Pls}),eyes:=List.take (s.eyes.length:Int).toNat (List.replicate (s.eyes.length:Int).toNat (dflt 23)),gaps:=List.take (s.eyes.length:Int).toNat (List.replicate (s.eyes.length:Int).toNat (dflt 22))}) with greens:=List.take (s.phases.length:Int).toNat (List.replicate (s.phases.length:Int).toNat (0:Int)),busy:=List.take (s.phases.length:Int).toNat (List.replicate (s.phases.length:Int).toNat (0:Int)),came:=List.take (s.phases.length:Int).toNat (List.replicate (s.phases.length:Int).toNat (0:Int))}=x30∧(True)) (fun J28 hJ28=>?_) ?_
   ·refine W_sm ?_
    refine qaf (by first|omega|(rw[List.length_drop];omega)|(simp<;>omega)) ?_
    refine W_sm ?_
    refine qaf (by first|omega|(rw[List.length_drop];omega)|(simp<;>omega)) ?_
    refine W_sm ?_
    refine qaf (by first|omega|(rw[List.length_drop];omega)|(simp<;>omega)) ?_
    exact hJ28.use _ (by dsimp only;exact⟨rfl,rfl,by first|trivial|omega⟩)
   ·rintro⟨_,⟨⟨x29,_⟩,⟨x30,_⟩,_⟩,_⟩ kJ28;dsimp only at kJ28
    obtain⟨rfl,rfl,kJ28⟩:=kJ28
    refine qaa ?_
    subst kJ9
    obtain⟨h1,h2,h3,h4⟩:=hn5
    subst h4
    have fo:=first_ok p0.ok h3 h2
    have le:∀ {α:Type} (a:α) (n:Nat),(List.take (n:Int).toNat (List.replicate (n:Int).toNat a))=List.replicate n a:=fun a n=>by rw[Int.toNat_natCast,List.take_of_length_le (by simp)]
    simp only[le]
    have md:(if n3=2∨n3=3 then (2:Int) else 1)=1∨(if n3=2∨n3=3 then (2:Int) else 1)=2:=by split<;>simp
    generalize (if n3=2∨n3=3 then (2:Int) else 1)=m at md ⊢
    exact{ok:={disk:=p1,now:=fo,rung:=⟨by dsimp only;omega,Int.le_refl 0,show (0:Int)≤1048576 by omega⟩,lat:=⟨fun h=>by simp at h,fun _=>by dsimp only;omega⟩,seq:=⟨⟨Int.le_refl 0,show (0:Int)<_ by omega⟩,Int.le_refl 0,show (0:Int)≤1048576 by omega⟩,link:=⟨⟨Int.le_refl 0,show (0:Int)≤1048576 by omega⟩,⟨Int.le_refl 0,show (0:Int)<4294967296 by omega⟩,fun _=>rfl⟩,rest:=Nat.zero_le _,told:=Nat.zero_le _,age:=⟨show (0:Int)≤1048576 by omega,Int.le_refl 1048576⟩,wrong:=⟨Int.le_refl 0,show (0:Int)≤1048576 by omega⟩,pulses:=List.length_replicate,gaps:=List.length_replicate,eyes:=by dsimp only;rw[List.length_replicate];omega,greens:=cn0 _,busy:=cn0 _,came:=cn0 _,tick:=⟨Int.le_refl 0,show (0:Int)≤1073741824 by omega⟩,sent:=⟨Int.le_refl 0,show (0:Int)<4294967296 by omega⟩},mode:=md,well:=rfl,lat:=rfl,start:=h2,seen:=h3,fl:=rfl,told:=⟨rfl,rfl,rfl⟩,age:=rfl,wrong:=rfl,tick:=rfl,link:=⟨rfl,rfl,rfl,rfl⟩}
theorem qzB {s:SiteT} {d:List UInt8} (p0:SSm s) (p1:SWf s) (p2:d.length≤1000000):W (qdM s d) (fun r=>r.1=0→SG s∧LNew s r.2):=by
 unfold qdM qif
 refine qab (ql6 (q1B p1 p0)) ?_
 rintro n1 hn1
 refine W_if (fun c1=>?_) fun c1=>?_
 ·refine qaa ?_
  exact fun h=>absurd h c1
 ·have e1:n1=0:=Classical.not_not.1 c1
  subst e1
  have sg:SG s:=⟨hn1.1 rfl,hn1.2⟩
  refine qab (qvV (by first|omega|assumption|(simp<;>omega))) ?_
  rintro b2 hb2
  refine W_if (fun c2=>?_) fun c2=>?_
  ·refine qaa ?_
   exact fun h=>by simp at h
  ·refine qab (qeO sg p2) ?_
   rintro x3 hx3
   refine qaa ?_
   exact fun _=>⟨sg,hx3⟩
end Go.Proofs.YtcdppfnjidlknaaGreatDoor
namespace Go.Proofs.YtcdppfnjidlknaaGreatDoor
open Go Go.Eng Go.Proofs Go.Wp
theorem q5q {α:Type} {l:List α} (d:α) {n m:Int} (h:0≤n∧n<l.length) (e:m=n+1):l.take m.toNat=l.take n.toNat++[l.getD n.toNat d]:=by
  rw[e,show (n+1).toNat=n.toNat+1 by omega,List.take_add_one,List.getElem?_eq_getElem (by omega),List.getD_eq_getElem?_getD,List.getElem?_eq_getElem (by omega)];rfl
def lst (a:Bool×Int×List Msg) (m:Msg):Bool×Int×List Msg:=if a.1=true∧(m.seq.toNat:Int)≤a.2.1 then a else (true,(m.seq.toNat:Int),a.2.2++[m])
abbrev lfo (a:Bool×Int×List Msg) (l:List Msg):Bool×Int×List Msg:=l.foldl lst a
theorem qtL {α:Type} {f:α→Msg→α} {a s:α} {l:List Msg} {n m:Int} {x:Msg} (h:s=(l.take n.toNat).foldl f a) (g:0≤n∧n<l.length) (ex:x=l.getD n.toNat (dflt 8)) (em:m=n+1):f s x=(l.take m.toNat).foldl f a:=by
  rw[q5q (dflt 8) g em,← ex,h,List.foldl_append];rfl
theorem lfo_no {b:Bool} {n:Int} {z:List Msg} {x:Msg} (c:b=true∧(x.seq.toNat:Int)≤n):(b,n,z)=lst (b,n,z) x:=by
  unfold lst
  rw[if_pos c]
theorem lfo_yes {b:Bool} {n:Int} {z z':List Msg} {x:Msg} (c:¬ (b=true∧(x.seq.toNat:Int)≤n)) (ez:z'=z++[x]):(true,(x.seq.toNat:Int),z')=lst (b,n,z) x:=by
  unfold lst
  rw[if_neg c,ez]
theorem qfO {r:List UInt8} {r2:Bool} {most:Int} (p0:r.length≤140737488355328) (p1:0≤most∧most≤1048576):W (qhL r r2 most) (fun q=>q.2.1.length≤r.length∧0≤q.1∧q.1≤most):=by
 unfold qhL qvg
 refine qab (qjS (by first|omega|assumption|(simp<;>omega))) ?_
 rintro⟨n1,n2,n3⟩ hn1
 try dsimp only at hn1
 refine W_wu (by omega) fun n4 hn4=>?_
 refine W_if (fun c1=>?_) fun c1=>?_
 ·refine qaa ?_
  exact⟨Nat.le_refl _,Int.le_refl 0,p1.1⟩
 ·refine qaf (by first|omega|(rw[List.length_drop];omega)|(simp<;>omega)) ?_
  refine qaf (by first|omega|(rw[List.length_drop];omega)|(simp<;>omega)) ?_
  refine W_wi (by omega) fun n5 hn5=>?_
  refine qaa ?_
  dsimp only;rw[List.length_drop];omega
theorem qqF {n:Int}:W (qiH n) (fun r=>r=true↔0≤n∧n≤65535):=by
 unfold qiH qkr
 refine qaa ?_
 cases h1:decide (n≥0)<;>simp at h1 ⊢<;>omega
theorem qtM {l:List Int} (p0:l.length≤1000) (p1:∀ x∈l,0≤x∧x<9223372036854775808):W (qev l) (fun r=>r.length≤0+10*l.length):=by
 unfold qev qpf
 refine qaj (fun v=>∃ z2 n5,v=((z2,()),(),l,(l.length:Int),n5,())∧(0≤n5∧n5≤(l.length:Int))∧((z2.length:Int)≤0+10*n5)) (fun((z2,_),_,_,_,n5,_)=>((l.length:Int)-n5).toNat) ⟨_,_,rfl,by first|omega|(simp<;>omega),by first|omega|(simp<;>omega)⟩ (by simp only[NN];omega) ?_
 rintro r1 _ ⟨z2,n5,rfl,hr1_0,hr1_1⟩ ihr1
 refine W_if (fun c1=>?_) fun c1=>?_
 ·refine W_ix (by omega) fun n6 hn6=>?_
  have g6:=qap (d:=(0:Int)) p1 (n:=n5) (by omega)
  rw[← hn6] at g6
  refine W_wu (by omega) fun n7 hn7=>?_
  refine qab (qcy (by first|omega|assumption|(simp<;>omega))) ?_
  rintro z8 hz8
  refine W_rm (by first|omega|(rw[List.length_drop];omega)|(simp<;>omega)) ?_
  refine qac fun z9 hz9=>?_
  have lz9:=congrArg List.length hz9;try simp at lz9
  refine qah (by omega) fun n10 hn10=>?_
  refine W_rs (by first|rfl|omega|(simp<;>omega)) ?_
  exact ihr1.use _ ⟨_,_,rfl,by first|omega|(simp<;>omega),by first|omega|(simp<;>omega)⟩ (by dsimp only;omega)
 ·refine W_rs (by first|rfl|omega|(simp<;>omega)) ?_
  refine qaa ?_
  first|omega|simp|trivial
theorem qzC {b:List UInt8} {l:List Int} (p0:l.length≤1000) (p1:∀ x∈l,0≤x∧x<9223372036854775808) (p2:b.length≤1000000):W (qhT b l) (fun r=>r.length≤b.length+10*l.length):=by
 unfold qhT qvy
 refine W_rs (by first|rfl|omega|(simp<;>omega)) ?_
 refine qaj (fun v=>∃ z2 n5,v=((z2,()),(),l,(l.length:Int),n5,())∧(0≤n5∧n5≤(l.length:Int))∧((z2.length:Int)≤b.length+10*n5)) (fun((z2,_),_,_,_,n5,_)=>((l.length:Int)-n5).toNat) ⟨_,_,rfl,by first|omega|(simp<;>omega),by first|omega|(simp<;>omega)⟩ (by simp only[NN];omega) ?_
 rintro r1 _ ⟨z2,n5,rfl,hr1_0,hr1_1⟩ ihr1
 refine W_if (fun c2=>?_) fun c2=>?_
 ·refine W_ix (by omega) fun n6 hn6=>?_
  have g6:=qap (d:=(0:Int)) p1 (n:=n5) (by omega)
  rw[← hn6] at g6
  refine W_wu (by omega) fun n7 hn7=>?_
  refine qab (qcy (by first|omega|assumption|(simp<;>omega))) ?_
  rintro z8 hz8
  refine W_rm (by first|omega|(rw[List.length_drop];omega)|(simp<;>omega)) ?_
  refine qac fun z9 hz9=>?_
  have lz9:=congrArg List.length hz9;try simp at lz9
  refine qah (by omega) fun n10 hn10=>?_
  refine W_rs (by first|rfl|omega|(simp<;>omega)) ?_
  exact ihr1.use _ ⟨_,_,rfl,by first|omega|(simp<;>omega),by first|omega|(simp<;>omega)⟩ (by dsimp only;omega)
 ·refine W_rs (by first|rfl|omega|(simp<;>omega)) ?_
  refine qaa ?_
  first|omega|simp|trivial
theorem qwh {c:Int} {c2:Int} {c3:Int} {c4:List Int} (p0:c4.length≤8∧∀ x∈c4,0≤x∧x≤1048576):W (qib c c2 c3 c4) (fun r=>r.1.length≤1000):=by
 unfold qib qbw
 refine qab (qqF) ?_
 rintro b1 hb1
 refine W_if (fun c1=>?_) fun c1=>?_
 ·refine qaa ?_
  simp
 ·refine qab (qih (by simp;omega)) ?_
  rintro⟨z2,n3⟩ hz2
  try dsimp only at hz2
  refine W_if (fun c2=>?_) fun c2=>?_
  ·refine qaa ?_
   simp
  ·refine W_sm ?_
   refine qab (qtM (by simp) (by have h:=(hz2.2 (Classical.not_not.1 (by assumption))).2 _ (List.mem_singleton.2 rfl);unfold Tk at h;dsimp only at h;have g:=hb1.1 (by simpa using c1);simp;omega)) ?_
   rintro z4 hz4
   refine W_rs (by first|rfl|omega|(simp<;>omega)) ?_
   refine qab (qzC (by omega) (fun x hx=>by have:=p0.2 x hx;omega) (by simp at hz4;omega)) ?_
   rintro z5 hz5
   refine W_rs (by first|rfl|omega|(simp<;>omega)) ?_
   refine qaa ?_
   dsimp only;simp at hz4;omega
theorem q2d {l:Bool} {l2:Int} {l3:Int} (p0:(0≤l3∧l3≤1048576)∧(l=false→l2=0)):W (qot l l2 l3) (fun r=>r=0):=by
 unfold qot qkt
 refine W_if (fun c1=>?_) fun c1=>?_
 ·refine qaa ?_
  exfalso;rcases c1 with h|⟨h,g⟩
  · omega
  · exact g (p0.2 (by simpa using h))
 ·refine qaa ?_
  rfl
theorem q5r {last:Int} (p0:0≤last∧last<4294967296):W (quF last) (fun r=>r.2=0→0≤r.1∧r.1<4294967296):=by
 unfold quF qou
 refine W_if (fun c1=>?_) fun c1=>?_
 ·refine qaa ?_
  first|omega|simp|trivial
 ·refine W_wq (by omega) fun n1 hn1=>?_
  refine qaa ?_
  first|omega|simp|trivial
theorem qcP {b:List UInt8} (p0:b.length≤140737488355328):W (qa1 b) (fun r=>r.2.2.2.2.length≤8∧(∀ x∈r.2.2.2.2,0≤x∧x≤1048576)):=by
 unfold qa1 qaM
 refine qab (qfO (by first|omega|assumption|(simp<;>omega)) (by first|omega|assumption|(simp<;>omega))) ?_
 rintro⟨n1,z2,b3⟩ hn1
 try dsimp only at hn1
 refine qab (qfO (by first|omega|assumption|(simp<;>omega)) (by first|omega|assumption|(simp<;>omega))) ?_
 rintro⟨n4,z5,b6⟩ hn4
 try dsimp only at hn4
 refine qab (qfO (by first|omega|assumption|(simp<;>omega)) (by first|omega|assumption|(simp<;>omega))) ?_
 rintro⟨n7,z8,b9⟩ hn7
 try dsimp only at hn7
 refine qab (qfO (by first|omega|assumption|(simp<;>omega)) (by first|omega|assumption|(simp<;>omega))) ?_
 rintro⟨n10,z11,b12⟩ hn10
 try dsimp only at hn10
 refine qaj (fun v=>∃ z14 z22 b23 n26,v=((z14,()),((n1,n4,n7,()),((0:Int),(0:Int),(0:Int),qfa,()),(z22,b23,()),()),b,((),()),n10,n26,())∧(0≤n26∧n26≤n10)∧((z14.length:Int)=n26)∧(∀ x∈z14,0≤x∧x≤1048576)∧(z22.length≤b.length)) (fun((z14,_),((_,_,_,_),(_,_,_,_,_),(z22,b23,_),_),_,(_,_),_,n26,_)=>(n10-n26).toNat) ⟨_,_,_,_,rfl,by omega,by simp,by simp,by omega⟩ (by simp only[NN];omega) ?_
 rintro r13 _ ⟨z14,z22,b23,n26,rfl,hr13_0,hr13_1,hr13_2,hr13_3⟩ ihr13
 refine W_if (fun c1=>?_) fun c1=>?_
 ·refine qaz (fun((z43,_),((n44,n45,n46,_),(n47,n48,n49,z50,_),(z51,b52,_),_),z53,(_,_),n54,n55,_)=>n1=n44∧n4=n45∧n7=n46∧(0:Int)=n47∧(0:Int)=n48∧(0:Int)=n49∧qfa=z50∧b=z53∧n10=n54∧n26=n55∧((z43.length:Int)=n26+1∧(∀ x∈z43,0≤x∧x≤1048576)∧z51.length≤b.length)) (fun J30 hJ30=>?_) ?_
  ·refine W_sm ?_
   refine qab (qfO (by first|omega|assumption|(simp<;>omega)) (by first|omega|assumption|(simp<;>omega))) ?_
   rintro⟨n31,z32,b33⟩ hn31
   try dsimp only at hn31
   refine W_rm (by first|omega|(rw[List.length_drop];omega)|(simp<;>omega)) ?_
   refine qac fun z34 hz34=>?_
   have lz34:=congrArg List.length hz34;try simp at lz34
   refine W_rs (by first|rfl|omega|(simp<;>omega)) ?_
   exact hJ30.use _ (by dsimp only;exact⟨rfl,rfl,rfl,rfl,rfl,rfl,rfl,rfl,rfl,rfl,by omega,qd2 hr13_2 hz34 hn31.2,by omega⟩)
  ·rintro⟨⟨z43,_⟩,⟨⟨n44,n45,n46,_⟩,⟨n47,n48,n49,z50,_⟩,⟨z51,b52,_⟩,_⟩,z53,⟨_,_⟩,n54,n55,_⟩ kJ30;dsimp only at kJ30
   obtain⟨rfl,rfl,rfl,rfl,rfl,rfl,rfl,rfl,rfl,rfl,kJ30⟩:=kJ30
   obtain⟨k1,k2,k3⟩:=kJ30
   refine qah (by omega) fun n56 hn56=>?_
   refine W_rs (by first|rfl|omega|(simp<;>omega)) ?_
   exact ihr13.use _ ⟨_,_,_,_,rfl,by omega,by omega,k2,k3⟩ (by dsimp only;omega)
 ·refine qab (qwh (by rw[List.take_length];exact⟨by omega,hr13_2⟩)) ?_
  rintro⟨z27,n28⟩ hz27
  try dsimp only at hz27
  refine W_if (fun c5=>?_) fun c5=>?_
  ·refine qaa ?_
   first|(simp;done)|(dsimp only;rw[List.take_length];exact⟨by omega,hr13_2⟩)
  ·refine qab (qfJ) ?_
   rintro b29 hb29
   refine W_if (fun c6=>?_) fun c6=>?_
   ·refine qaa ?_
    first|(simp;done)|(dsimp only;rw[List.take_length];exact⟨by omega,hr13_2⟩)
   ·refine qaa ?_
    first|(simp;done)|(dsimp only;rw[List.take_length];exact⟨by omega,hr13_2⟩)
theorem ql7 {l:Bool} {l2:Int} {l3:Int} {got:List Msg} (p0:(0≤l3∧l3≤1048576)∧(0≤l2∧l2<4294967296)∧(l=false→l2=0)) (p1:got.length≤1000000):W (qjf l l2 l3 got) (fun r=>r.1.length≤1024∧(∀ m∈r.1,m.body.length≤512)∧((0≤r.2.2.2.2∧r.2.2.2.2≤1048576)∧(0≤r.2.2.2.1∧r.2.2.2.1<4294967296)∧(r.2.2.1=false→r.2.2.2.1=0))∧(got.length≤1024→(∀ m∈got,m.body.length≤512)→r=((lfo (l,l2,[]) got).2.2,0,(lfo (l,l2,[]) got).1,(lfo (l,l2,[]) got).2.1,if (lfo (l,l2,[]) got).2.2=[] then min (l3+1) 1048576 else 0))):=by
 unfold qjf qdF
 refine qab (q2d ⟨p0.1,p0.2.2⟩) ?_
 rintro n1 hn1
 refine W_if (fun c1=>?_) fun c1=>?_
 ·refine qaa ?_
  exact absurd hn1 c1
 ·refine W_if (fun c2=>?_) fun c2=>?_
  ·refine qaa ?_
   exact⟨by simp,by simp,by simp,fun h=>by omega⟩
  ·refine qaj (fun v=>∃ n12,v=((),((l,l2,l3,()),(false,(0:Int),(0:Int),()),()),got,got,(got.length:Int),n12,())∧(0≤n12∧n12≤(got.length:Int))∧(Upto (fun m:Msg=>m.body.length≤512) got (dflt 8) n12)) (fun(_,((_,_,_,_),(_,_,_,_),_),_,_,_,n12,_)=>((got.length:Int)-n12).toNat) ⟨_,rfl,by omega,Upto.zero⟩ (by simp only[NN];omega) ?_
   rintro r2 _ ⟨n12,rfl,hr2_0,hr2_1⟩ ihr2
   refine W_if (fun c3=>?_) fun c3=>?_
   ·refine W_ix (by omega) fun x43 hx43=>?_
    refine W_if (fun c4=>?_) fun c4=>?_
    ·refine qaa ?_
     exact⟨by simp,by simp,by simp,fun _ h=>absurd (h x43 (by rw[hx43];exact qaV (by omega))) (by omega)⟩
    ·refine qah (by omega) fun n44 hn44=>?_
     exact ihr2.use _ ⟨_,rfl,by omega,hr2_1.succ (by omega) hn44 (by rw[← hx43];omega)⟩ (by dsimp only;omega)
   ·refine qaj (fun v=>∃ z14 b15 n16 n23,v=((z14,()),((b15,n16,l3,()),(false,(0:Int),(0:Int),()),()),got,(got.length:Int),n23,())∧(0≤n23∧n23≤(got.length:Int))∧((z14.length:Int)≤n23)∧((∀ m∈z14,m.body.length≤512))∧((0≤n16∧n16<4294967296)∧(b15=false→n16=0))∧((b15,n16,z14)=lfo (l,l2,[]) (got.take n23.toNat))) (fun((z14,_),((b15,n16,_,_),(_,_,_,_),_),_,_,n23,_)=>((got.length:Int)-n23).toNat) ⟨_,_,_,_,rfl,by omega,by simp,by simp,p0.2,rfl⟩ (by simp only[NN];omega) ?_
    rintro r13 _ ⟨z14,b15,n16,n23,rfl,hr13_0,hr13_1,hr13_2,hr13_3,hr13_4⟩ ihr13
    refine W_if (fun c5=>?_) fun c5=>?_
    ·refine W_ix (by omega) fun x26 hx26=>?_
     have g26:=qap (d:=dflt 8) (n:=n23) (hr2_1.all (by omega)) (by omega)
     rw[← hx26] at g26
     refine W_if (fun c6=>?_) fun c6=>?_
     ·refine qah (by omega) fun n42 hn42=>?_
      refine W_rs (by first|rfl|omega|(simp<;>omega)) ?_
      exact ihr13.use _ ⟨_,_,_,_,rfl,by omega,by omega,hr13_2,hr13_3,(lfo_no c6).trans (qtL hr13_4 (by omega) hx26 hn42)⟩ (by dsimp only;omega)
     ·refine qaz (fun((z28,_),((b29,n30,n31,_),(b32,n33,n34,_),(x35,_),_),z36,n37,n38,_)=>z14=z28∧true=b29∧(↑x26.seq.toNat:Int)=n30∧l3=n31∧false=b32∧(0:Int)=n33∧(0:Int)=n34∧{kind:=UInt8.ofNat (↑x26.kind.toNat:Int).toNat,seq:=UInt32.ofNat (↑x26.seq.toNat:Int).toNat,body:=x26.body:Msg}=x35∧got=z36∧(got.length:Int)=n37∧n23=n38∧(True)) (fun J27 hJ27=>?_) ?_
      ·refine W_sm ?_
       refine W_rs (by first|rfl|omega|(simp<;>omega)) ?_
       exact hJ27.use _ (by dsimp only;exact⟨rfl,rfl,rfl,rfl,rfl,rfl,rfl,rfl,rfl,rfl,rfl,by first|trivial|omega⟩)
      ·rintro⟨⟨z28,_⟩,⟨⟨b29,n30,n31,_⟩,⟨b32,n33,n34,_⟩,⟨x35,_⟩,_⟩,z36,n37,n38,_⟩ kJ27;dsimp only at kJ27
       obtain⟨rfl,rfl,rfl,rfl,rfl,rfl,rfl,rfl,rfl,rfl,rfl,kJ27⟩:=kJ27
       refine qab (qdu (by first|omega|assumption|(simp<;>omega))) ?_
       rintro z39 hz39
       refine W_rm (by first|omega|(rw[List.length_drop];omega)|(simp<;>omega)) ?_
       refine qac fun z40 hz40=>?_
       have lz40:=congrArg List.length hz40;try simp at lz40
       have u26:=qcQ x26.seq
       have e40:=hz40
       simp only[Int.toNat_natCast,UInt8.ofNat_toNat,UInt32.ofNat_toNat,List.take_length,hz39] at e40
       refine qah (by omega) fun n41 hn41=>?_
       refine W_rs (by first|rfl|omega|(simp<;>omega)) ?_
       exact ihr13.use _ ⟨_,_,_,_,rfl,by omega,by omega,qd2 hr13_2 hz40 (by dsimp only;rw[List.take_length,hz39];exact g26),⟨by omega,fun h=>by simp at h⟩,(lfo_yes c6 e40).trans (qtL hr13_4 (by omega) hx26 hn41)⟩ (by dsimp only;omega)
    ·refine qah (by omega) fun n24 hn24=>?_
     refine qac fun n25 hn25=>?_
     refine W_if (fun c11=>?_) fun c11=>?_
     ·refine qaa ?_
      have e:=hr13_4
      rw[show n23.toNat=got.length by omega,List.take_length] at e
      rw[List.take_length,← e]
      exact⟨by dsimp only;omega,hr13_2,⟨⟨by dsimp only;omega,by dsimp only;omega⟩,hr13_3⟩,fun _ _=>by dsimp only;rw[if_neg (fun h=>by rw[h] at c11;simp at c11)]⟩
     ·refine qaa ?_
      have e:=hr13_4
      rw[show n23.toNat=got.length by omega,List.take_length] at e
      rw[List.take_length,← e]
      exact⟨by dsimp only;omega,hr13_2,⟨⟨by dsimp only;omega,by dsimp only;omega⟩,hr13_3⟩,fun _ _=>by dsimp only;rw[if_pos (List.eq_nil_of_length_eq_zero (by omega)),hn25,hn24]⟩
end Go.Proofs.YtcdppfnjidlknaaGreatDoor
namespace Go.Proofs.YtcdppfnjidlknaaGreatDoor
open Go Go.Eng Go.Proofs Go.Wp
theorem ap0 (X:List UInt8):List.append._f [] PUnit.unit X=X:=rfl
theorem and_15 (x:Int):0≤bits .and .u32 x 15∧bits .and .u32 x 15<16:=by
  have e:bits .and .u32 x 15=IntKind.u32.wrap ((BitVec.ofInt 32 x &&& BitVec.ofInt 32 15).toNat:Int):=rfl
  have h:(BitVec.ofInt 32 x &&& BitVec.ofInt 32 15).toNat≤15:=by
    rw[BitVec.toNat_and];exact Nat.and_le_right
  rw[e,Go.Wp.uwrap .u32 rfl _ (by show _<4294967296;omega)]
  omega
def stf (b:List UInt8):List UInt8:=b.flatMap fun x=>if x=125∨x=126 then [125,x-32] else [x]
def qrv:Option (Bool×List UInt8)→UInt8→Option (Bool×List UInt8)
  |none,_=>none
  |some (s,o),x=>if (s=true∧x≠93∧x≠94)∨x=126 then none else if s=true then some (false,o++[x+32]) else if x=125 then some (true,o) else some (false,o++[x])
def qfM (b:List UInt8):Option (Bool×List UInt8):=b.foldl qrv (some (false,[]))
theorem qzo {x:UInt8} (n:Nat) (h:(x.toNat:Int)=n) (hn:n<256):x=UInt8.ofNat n:=by
  apply UInt8.toNat_inj.1
  rw[UInt8.toNat_ofNat',Nat.mod_eq_of_lt (show n<2 ^ 8 from hn)];omega
theorem qvX (a b:List UInt8):stf (a++b)=stf a++stf b:=by unfold stf;rw[List.flatMap_append]
theorem qvY (x:UInt8):stf [x]=if x=125∨x=126 then [125,x-32] else [x]:=by unfold stf;rw[List.flatMap_singleton]
theorem qq0:∀ (b:List UInt8),(stf b).length≤2*b.length
  | []=>by simp[stf]
  |x::b=>by
    have:=qq0 b
    have e:stf (x::b)=stf [x]++stf b:=qvX [x] b
    rw[e,qvY,List.length_append]
    split<;>simp<;>omega
theorem stf_no (b:List UInt8):∀ x,x∈stf b→x≠126:=by
  intro x hx
  unfold stf at hx
  obtain⟨y,-,hy⟩:=List.mem_flatMap.1 hx
  split at hy
  · rename_i c
    simp only[List.mem_cons,List.not_mem_nil,or_false] at hy
    rcases hy with rfl|rfl
    · decide
    · rcases c with rfl|rfl<;>decide
  · rename_i c
    simp only[List.mem_cons,List.not_mem_nil,or_false] at hy
    subst hy
    exact fun e=>c (.inr e)
theorem qn2 (s:Bool) (o:List UInt8) (x:UInt8):qrv (some (s,o)) x=if (s=true∧x≠93∧x≠94)∨x=126 then none else if s=true then some (false,o++[x+32]) else if x=125 then some (true,o) else some (false,o++[x]):=rfl
theorem q3R:∀ (b o:List UInt8),(stf b).foldl qrv (some (false,o))=some (false,o++b)
  | [],o=>by simp[stf]
  |x::b,o=>by
    have e:stf (x::b)=stf [x]++stf b:=qvX [x] b
    rw[e,qvY,List.foldl_append]
    have s:List.foldl qrv (some (false,o)) (if x=125∨x=126 then [125,x-32] else [x])=some (false,o++[x]):=by
      split
      · rename_i c
        rcases c with rfl|rfl<;>rfl
      · rename_i c
        show qrv (some (false,o)) x=_
        rw[qn2,if_neg (fun h=>by rcases h with h|h;exact absurd h.1 (by decide);exact c (.inr h)),if_neg (by decide),if_neg (fun h=>c (.inl h))]
    rw[s,q3R b,List.append_assoc];rfl
theorem q73 (b:List UInt8):qfM (stf b)=some (false,b):=q3R b []
theorem qtA:∀ (b:List UInt8),b.foldl qrv none=none
  | []=>rfl
  |_::b=>qtA b
theorem qvZ {b:List UInt8} {n m:Int} {s:Option (Bool×List UInt8)} (h:qfM (b.take n.toNat)=s) (g:0≤n∧n<b.length) (e:m=n+1):qfM (b.take m.toNat)=qrv s (b.getD n.toNat 0):=by
  rw[q5q 0 g e]
  unfold qfM at h ⊢
  rw[List.foldl_append,h];rfl
theorem qzp {b:List UInt8} {n:Int} {s:Option (Bool×List UInt8)} {x:UInt8} (h:qfM (b.take n.toNat)=s) (g:0≤n∧n<b.length) (ex:x=b.getD n.toNat 0) (hx:qrv s x=none):qfM b=none:=by
  have e:=qvZ h g rfl
  rw[← ex,hx] at e
  unfold qfM at e ⊢
  rw[← List.take_append_drop (n+1).toNat b,List.foldl_append,e]
  exact qtA _
theorem stf_a {b z z9 z11:List UInt8} {n m k:Int} {x:UInt8} (h:z=stf (b.take n.toNat)) (g:0≤n∧n<b.length) (ex:x=b.getD n.toNat 0) (c:(x.toNat:Int)=125∨(x.toNat:Int)=126) (e9:z9=List.take z.length z++[UInt8.ofNat (125:Int).toNat]) (ek:k=(x.toNat:Int)-32) (e11:z11=List.take (z.length+1) z9++[UInt8.ofNat k.toNat]) (em:m=n+1):z11=stf (b.take m.toNat):=by
  rw[q5q 0 g em,qvX,← h,← ex,qvY]
  have q:x=125∨x=126:=c.imp (qzo 125 · (by decide)) (qzo 126 · (by decide))
  rw[if_pos q,e11,e9,List.take_length,List.take_of_length_le (by simp),List.append_assoc]
  rcases q with rfl|rfl
  · have:k=93:=ek
    subst this;rfl
  · have:k=94:=ek
    subst this;rfl
theorem stf_b {b z z7:List UInt8} {n m:Int} {x:UInt8} (h:z=stf (b.take n.toNat)) (g:0≤n∧n<b.length) (ex:x=b.getD n.toNat 0) (c:¬ ((x.toNat:Int)=125∨(x.toNat:Int)=126)) (e7:z7=List.take z.length z++[UInt8.ofNat (x.toNat:Int).toNat]) (em:m=n+1):z7=stf (b.take m.toNat):=by
  rw[q5q 0 g em,qvX,← h,← ex,qvY,if_neg (fun q=>c (by rcases q with rfl|rfl;exact .inl rfl;exact .inr rfl)),e7,List.take_length,Int.toNat_natCast,UInt8.ofNat_toNat]
theorem bad_1 {x:UInt8} {s:Bool} {o:List UInt8} (c:(s=true∧(x.toNat:Int)≠93)∧(x.toNat:Int)≠94):qrv (some (s,o)) x=none:=by
  rw[qn2,if_pos (.inl ⟨c.1.1,fun e=>c.1.2 (by rw[e];rfl),fun e=>c.2 (by rw[e];rfl)⟩)]
theorem bad_2 {x:UInt8} {s:Bool} {o:List UInt8} (c:(x.toNat:Int)=126):qrv (some (s,o)) x=none:=by
  rw[qn2,if_pos (.inr (qzo 126 c (by decide)))]
theorem bf_sgn {b z z':List UInt8} {n m k:Int} {s:Bool} {x:UInt8} (h:qfM (b.take n.toNat)=some (s,z)) (g:0≤n∧n<b.length) (ex:x=b.getD n.toNat 0) (hs:s=true) (c:¬ ((s=true∧(x.toNat:Int)≠93)∧(x.toNat:Int)≠94)) (ek:k=wb ((x.toNat:Int)+32)) (ez:z'=List.take z.length z++[UInt8.ofNat k.toNat]) (em:m=n+1):qfM (b.take m.toNat)=some (false,z'):=by
  have q:x=93∨x=94:=by
    by_cases e:(x.toNat:Int)=93
    · exact .inl (qzo 93 e (by decide))
    · exact .inr (qzo 94 (Classical.not_not.1 fun f=>c ⟨⟨hs,e⟩,f⟩) (by decide))
  rw[qvZ h g em,← ex,ez,List.take_length,hs]
  rcases q with rfl|rfl
  · have:k=125:=ek
    subst this;rfl
  · have:k=126:=ek
    subst this;rfl
theorem bf_125 {b z:List UInt8} {n m:Int} {s:Bool} {x:UInt8} (h:qfM (b.take n.toNat)=some (s,z)) (g:0≤n∧n<b.length) (ex:x=b.getD n.toNat 0) (hs:¬ s=true) (c:(x.toNat:Int)=125) (em:m=n+1):qfM (b.take m.toNat)=some (true,z):=by
  have q:=qzo 125 c (by decide)
  rw[qvZ h g em,← ex,q,eq_false_of_ne_true hs];rfl
theorem bf_oth {b z z':List UInt8} {n m:Int} {s:Bool} {x:UInt8} (h:qfM (b.take n.toNat)=some (s,z)) (g:0≤n∧n<b.length) (ex:x=b.getD n.toNat 0) (hs:¬ s=true) (c:¬ (x.toNat:Int)=126) (d:¬ (x.toNat:Int)=125) (ez:z'=List.take z.length z++[UInt8.ofNat (x.toNat:Int).toNat]) (em:m=n+1):qfM (b.take m.toNat)=some (s,z'):=by
  rw[qvZ h g em,← ex,eq_false_of_ne_true hs,qn2,if_neg (fun q=>by rcases q with q|q;exact absurd q.1 (by decide);exact c (by rw[q];rfl)),if_neg (by decide),if_neg (fun q=>d (by rw[q];rfl)),ez,List.take_length,Int.toNat_natCast,UInt8.ofNat_toNat]
noncomputable def pcL (u:List UInt8):List Msg:=match qcv u with
  |some (true,k,n,b)=>[⟨UInt8.ofNat k.toNat,UInt32.ofNat n.toNat,b⟩]
  |_=>[]
abbrev Rd:=Bool×Bool×List UInt8
def rst (s:Rd) (x:UInt8):Rd:=if x=126 then (true,false,[]) else if 1043≤s.2.2.length then (s.1,true,s.2.2) else if s.1=true then (s.1,s.2.1,s.2.2++[x]) else s
noncomputable def emit (s:Rd) (x:UInt8):List Msg:=if x=126∧s.1=true∧s.2.1=false then pcL s.2.2 else []
def ql1 (s:Rd) (b:List UInt8):Rd:=b.foldl rst s
noncomputable def msgs:Rd→List UInt8→List Msg
  |_,[]=>[]
  |s,x::b=>emit s x++msgs (rst s x) b
theorem qq1 (s:Rd) (a b:List UInt8):ql1 s (a++b)=ql1 (ql1 s a) b:=by unfold ql1;rw[List.foldl_append]
theorem qn3:∀ (s:Rd) (a b:List UInt8),msgs s (a++b)=msgs s a++msgs (ql1 s a) b
  |s,[],b=>rfl
  |s,x::a,b=>by
    rw[List.cons_append,msgs,msgs,qn3 (rst s x) a b,List.append_assoc];rfl
theorem mid {k:UInt8} {q b w:List UInt8} (lq:q.length=4) (lw:w.length=4):((k::(q++b++w)).take ((k::(q++b++w)).length-4)).drop 5=b:=by
  have e:(k::(q++b++w)).length-4=(k::(q++b)).length:=by simp only[List.length_cons,List.length_append];omega
  rw[e,show k::(q++b++w)=(k::(q++b))++w from rfl,List.take_left]
  show (q++b).drop 4=b
  rw[← lq,List.drop_left]
theorem rs_end {s:Rd} {x:UInt8} {z:List UInt8} (c:(x.toNat:Int)=126):((true,false,List.take (Int.toNat 0) z):Rd)=rst s x:=by
  unfold rst
  rw[if_pos (show x=126 from qzo 126 c (by decide))];rfl
theorem rs_long {x:UInt8} {z:List UInt8} {b5 b6:Bool} {k:Nat} (c:¬ (x.toNat:Int)=126) (h:(k:Int)≥1043) (g:k≤z.length):((b5,true,List.take k z):Rd)=rst (b5,b6,List.take k z) x:=by
  unfold rst
  rw[if_neg (fun e=>c (by rw[e];rfl)),if_pos (by dsimp only;rw[List.length_take];omega)]
theorem rs_more {x:UInt8} {z z':List UInt8} {b5 b6:Bool} {k:Nat} (c:¬ (x.toNat:Int)=126) (h:¬ (k:Int)≥1043) (g:k≤z.length) (hb:b5=true) (ez:z'=List.take k z++[UInt8.ofNat (x.toNat:Int).toNat]):((b5,b6,List.take (k+1) z'):Rd)=rst (b5,b6,List.take k z) x:=by
  unfold rst
  rw[if_neg (fun e=>c (by rw[e];rfl)),if_neg (by dsimp only;rw[List.length_take];omega),if_pos hb,ez,Int.toNat_natCast,UInt8.ofNat_toNat,List.take_of_length_le (by simp;omega)]
theorem rs_none {x:UInt8} {z:List UInt8} {b5 b6:Bool} {k:Nat} (c:¬ (x.toNat:Int)=126) (h:¬ (k:Int)≥1043) (g:k≤z.length) (hb:¬ b5=true):((b5,b6,List.take k z):Rd)=rst (b5,b6,List.take k z) x:=by
  unfold rst
  rw[if_neg (fun e=>c (by rw[e];rfl)),if_neg (by dsimp only;rw[List.length_take];omega),if_neg hb]
theorem em_yes {x:UInt8} {u v:List UInt8} {b b5 b6:Bool} {k n:Int} {z z':List Msg} (c:(x.toNat:Int)=126) (e:qcv u=some (b,k,n,v)) (c5:(b=true∧b5=true)∧¬ b6=true) (ez:z'=List.take z.length z++[{kind:=UInt8.ofNat k.toNat,seq:=UInt32.ofNat n.toNat,body:=List.take v.length v:Msg}]):z'=z++emit (b5,b6,u) x:=by
  unfold emit pcL
  rw[if_pos ⟨qzo 126 c (by decide),c5.1.2,eq_false_of_ne_true c5.2⟩,e,c5.1.1,ez,List.take_length,List.take_length]
theorem em_no {x:UInt8} {u v:List UInt8} {b b5 b6:Bool} {k n:Int} {z:List Msg} (e:qcv u=some (b,k,n,v)) (c5:¬ ((b=true∧b5=true)∧¬ b6=true)):z=z++emit (b5,b6,u) x:=by
  unfold emit
  split
  · rename_i h
    unfold pcL
    rw[e]
    cases b
    · simp
    · exact absurd ⟨⟨rfl,h.2.1⟩,fun q=>by have:=h.2.2;dsimp only at this;rw[q] at this;cases this⟩ c5
  · simp
theorem q74 {x:UInt8} {s:Rd} {z:List Msg} (c:¬ (x.toNat:Int)=126):z=z++emit s x:=by
  unfold emit
  rw[if_neg (fun h=>c (by rw[h.1];rfl)),List.append_nil]
def At (s0:Rd) (b:List UInt8) (n:Int) (s:Rd) (o:List Msg):Prop:=s=ql1 s0 (b.take n.toNat)∧o=msgs s0 (b.take n.toNat)
theorem At.go {s0 s s':Rd} {b:List UInt8} {n m:Int} {o o':List Msg} {x:UInt8} (h:At s0 b n s o) (g:0≤n∧n<b.length) (ex:x=b.getD n.toNat 0) (em:m=n+1) (e1:s'=rst s x) (e2:o'=o++emit s x):At s0 b m s' o':=by
  obtain⟨h1,h2⟩:=h
  unfold At
  rw[q5q 0 g em,qq1,qn3,← h1,← h2,← ex,e1,e2]
  exact⟨rfl,by show _=o++(emit s x++[]);rw[List.append_nil]⟩
theorem q3S {b:List UInt8} (p0:b.length≤1000000):W (q2L b) (fun r=>0≤r∧r<4294967296):=by
 unfold q2L q0y
 refine qaj (fun v=>∃ n3 n6,v=(((UInt32.ofNat (Int.toNat (0:Int))::UInt32.ofNat (Int.toNat (498536548:Int))::UInt32.ofNat (Int.toNat (997073096:Int))::UInt32.ofNat (Int.toNat (651767980:Int))::UInt32.ofNat (Int.toNat (1994146192:Int))::UInt32.ofNat (Int.toNat (1802195444:Int))::UInt32.ofNat (Int.toNat (1303535960:Int))::UInt32.ofNat (Int.toNat (1342533948:Int))::UInt32.ofNat (Int.toNat (3988292384:Int))::UInt32.ofNat (Int.toNat (4027552580:Int))::UInt32.ofNat (Int.toNat (3604390888:Int))::UInt32.ofNat (Int.toNat (3412177804:Int))::UInt32.ofNat (Int.toNat (2607071920:Int))::UInt32.ofNat (Int.toNat (2262029012:Int))::UInt32.ofNat (Int.toNat (2685067896:Int))::UInt32.ofNat (Int.toNat (3183342108:Int))::nilL2),()),(),n3,b,(b.length:Int),n6,())∧(0≤n6∧n6≤(b.length:Int))) (fun((_,_),_,n3,_,_,n6,_)=>((b.length:Int)-n6).toNat) ⟨_,_,rfl,by first|omega|(simp<;>omega)⟩ (by simp only[NN];omega) ?_
 rintro r1 _ ⟨n3,n6,rfl,hr1_0⟩ ihr1
 refine W_if (fun c1=>?_) fun c1=>?_
 ·refine W_ix (by omega) fun x8 hx8=>?_
  refine qac fun n9 hn9=>?_
  refine qac fun n10 hn10=>?_
  refine qac fun n11 hn11=>?_
  refine qac fun n12 hn12=>?_
  have g12:=and_15 n11
  rw[← hn12] at g12
  refine qaf (by (first|omega|(simp;omega)|(show n12.toNat<16;omega)|(show n19.toNat<16;omega))) ?_
  refine qaf (by (first|omega|(simp;omega)|(show n12.toNat<16;omega)|(show n19.toNat<16;omega))) ?_
  refine qaf (by (first|omega|(simp;omega)|(show n12.toNat<16;omega)|(show n19.toNat<16;omega))) ?_
  refine qac fun n13 hn13=>?_
  refine qac fun n14 hn14=>?_
  refine qac fun n15 hn15=>?_
  refine qac fun n16 hn16=>?_
  refine qac fun n17 hn17=>?_
  refine qac fun n18 hn18=>?_
  refine qac fun n19 hn19=>?_
  have g19:=and_15 n18
  rw[← hn19] at g19
  refine qaf (by (first|omega|(simp;omega)|(show n12.toNat<16;omega)|(show n19.toNat<16;omega))) ?_
  refine qaf (by (first|omega|(simp;omega)|(show n12.toNat<16;omega)|(show n19.toNat<16;omega))) ?_
  refine qaf (by (first|omega|(simp;omega)|(show n12.toNat<16;omega)|(show n19.toNat<16;omega))) ?_
  refine qac fun n20 hn20=>?_
  refine qac fun n21 hn21=>?_
  refine qah (by omega) fun n22 hn22=>?_
  exact ihr1.use _ ⟨_,_,rfl,by first|omega|(simp<;>omega)⟩ (by dsimp only;omega)
 ·refine qac fun n7 hn7=>?_
  refine qaa ?_
  rw[hn7];exact qzD ..
theorem qzq {b:List UInt8} (p0:b.length≤1000000):W (qku b) (fun r=>r=stf b):=by
 unfold qku qhB
 refine qaf (by first|omega|(rw[List.length_drop];omega)|(simp<;>omega)) ?_
 refine qaj (fun v=>∃ z2 n5,v=((z2,()),(),b,(b.length:Int),n5,())∧(0≤n5∧n5≤(b.length:Int))∧(z2=stf (b.take n5.toNat))) (fun((z2,_),_,_,_,n5,_)=>((b.length:Int)-n5).toNat) ⟨_,_,rfl,by omega,rfl⟩ (by simp only[NN];omega) ?_
 rintro r1 _ ⟨z2,n5,rfl,hr1_0,hr1_1⟩ ihr1
 have ls:=qq0 (b.take n5.toNat)
 rw[← hr1_1,List.length_take] at ls
 refine W_if (fun c2=>?_) fun c2=>?_
 ·refine W_ix (by omega) fun x6 hx6=>?_
  refine W_if (fun c3=>?_) fun c3=>?_
  ·refine W_rm (by first|omega|(rw[List.length_drop];omega)|(simp<;>omega)) ?_
   refine qac fun z9 hz9=>?_
   have lz9:=congrArg List.length hz9;try simp at lz9
   refine W_wb (by omega) fun n10 hn10=>?_
   refine qaf (by first|omega|(rw[List.length_drop];omega)|(simp<;>omega)) ?_
   refine qac fun z11 hz11=>?_
   have lz11:=congrArg List.length hz11;try simp at lz11
   refine qah (by omega) fun n12 hn12=>?_
   refine W_rs (by first|rfl|omega|(simp<;>omega)) ?_
   exact ihr1.use _ ⟨_,_,rfl,by omega,stf_a hr1_1 (by omega) hx6 c3 hz9 hn10 hz11 hn12⟩ (by dsimp only;omega)
  ·refine W_rm (by first|omega|(rw[List.length_drop];omega)|(simp<;>omega)) ?_
   refine qac fun z7 hz7=>?_
   have lz7:=congrArg List.length hz7;try simp at lz7
   refine qah (by omega) fun n8 hn8=>?_
   refine W_rs (by first|rfl|omega|(simp<;>omega)) ?_
   exact ihr1.use _ ⟨_,_,rfl,by omega,stf_b hr1_1 (by omega) hx6 c3 hz7 hn8⟩ (by dsimp only;omega)
 ·refine W_rs (by first|rfl|omega|(simp<;>omega)) ?_
  refine qaa ?_
  rw[hr1_1,List.take_of_length_le (by omega)]
theorem q1D {b:List UInt8} (p0:b.length≤1000000):W (qox b) (fun r=>r.1.length≤b.length∧∀ o,qfM b=some (false,o)→r=(o,0)):=by
 unfold qox qkv
 refine qaf (by first|omega|(rw[List.length_drop];omega)|(simp<;>omega)) ?_
 refine qaj (fun v=>∃ z2 b3 n6,v=((z2,()),(),b3,b,(b.length:Int),n6,())∧(0≤n6∧n6≤(b.length:Int))∧((z2.length:Int)≤n6)∧(qfM (b.take n6.toNat)=some (b3,z2))) (fun((z2,_),_,b3,_,_,n6,_)=>((b.length:Int)-n6).toNat) ⟨_,_,_,rfl,by omega,by simp,rfl⟩ (by simp only[NN];omega) ?_
 rintro r1 _ ⟨z2,b3,n6,rfl,hr1_0,hr1_1,hr1_2⟩ ihr1
 refine W_if (fun c2=>?_) fun c2=>?_
 ·refine W_ix (by omega) fun x7 hx7=>?_
  refine W_if (fun c3=>?_) fun c3=>?_
  ·refine W_if (fun c4=>?_) fun c4=>?_
   ·refine qaa ?_
    exact⟨by simp,fun o h=>by rw[qzp hr1_2 (by omega) hx7 (bad_1 c4)] at h;cases h⟩
   ·refine W_if (fun c5=>?_) fun c5=>?_
    ·refine qac fun n17 hn17=>?_
     refine W_rm (by first|omega|(rw[List.length_drop];omega)|(simp<;>omega)) ?_
     refine qac fun z18 hz18=>?_
     have lz18:=congrArg List.length hz18;try simp at lz18
     refine qah (by omega) fun n19 hn19=>?_
     refine W_rs (by first|rfl|omega|(simp<;>omega)) ?_
     exact ihr1.use _ ⟨_,_,_,rfl,by omega,by omega,absurd c3 c4⟩ (by dsimp only;omega)
    ·refine W_if (fun c8=>?_) fun c8=>?_
     ·refine qah (by omega) fun n16 hn16=>?_
      refine W_rs (by first|rfl|omega|(simp<;>omega)) ?_
      exact ihr1.use _ ⟨_,_,_,rfl,by omega,by omega,absurd c3 c4⟩ (by dsimp only;omega)
     ·refine W_rm (by first|omega|(rw[List.length_drop];omega)|(simp<;>omega)) ?_
      refine qac fun z14 hz14=>?_
      have lz14:=congrArg List.length hz14;try simp at lz14
      refine qah (by omega) fun n15 hn15=>?_
      refine W_rs (by first|rfl|omega|(simp<;>omega)) ?_
      exact ihr1.use _ ⟨_,_,_,rfl,by omega,by omega,absurd c3 c4⟩ (by dsimp only;omega)
  ·refine W_if (fun c12=>?_) fun c12=>?_
   ·refine qaa ?_
    exact⟨by simp,fun o h=>by rw[qzp hr1_2 (by omega) hx7 (bad_2 (by assumption))] at h;cases h⟩
   ·refine W_if (fun c13=>?_) fun c13=>?_
    ·refine qac fun n11 hn11=>?_
     refine W_rm (by first|omega|(rw[List.length_drop];omega)|(simp<;>omega)) ?_
     refine qac fun z12 hz12=>?_
     have lz12:=congrArg List.length hz12;try simp at lz12
     refine qah (by omega) fun n13 hn13=>?_
     refine W_rs (by first|rfl|omega|(simp<;>omega)) ?_
     exact ihr1.use _ ⟨_,_,_,rfl,by omega,by omega,bf_sgn hr1_2 (by omega) hx7 c13 c3 hn11 hz12 hn13⟩ (by dsimp only;omega)
    ·refine W_if (fun c16=>?_) fun c16=>?_
     ·refine qah (by omega) fun n10 hn10=>?_
      refine W_rs (by first|rfl|omega|(simp<;>omega)) ?_
      exact ihr1.use _ ⟨_,_,_,rfl,by omega,by omega,bf_125 hr1_2 (by omega) hx7 c13 c16 hn10⟩ (by dsimp only;omega)
     ·refine W_rm (by first|omega|(rw[List.length_drop];omega)|(simp<;>omega)) ?_
      refine qac fun z8 hz8=>?_
      have lz8:=congrArg List.length hz8;try simp at lz8
      refine qah (by omega) fun n9 hn9=>?_
      refine W_rs (by first|rfl|omega|(simp<;>omega)) ?_
      exact ihr1.use _ ⟨_,_,_,rfl,by omega,by omega,bf_oth hr1_2 (by omega) hx7 c13 c12 c16 hz8 hn9⟩ (by dsimp only;omega)
 ·refine W_if (fun c20=>?_) fun c20=>?_
  ·refine qaa ?_
   rw[show n6.toNat=b.length by omega,List.take_length] at hr1_2
   exact⟨by simp,fun o h=>by rw[hr1_2] at h;simp only[Option.some.injEq,Prod.mk.injEq] at h;exact absurd c20 (by rw[h.1];decide)⟩
  ·refine W_rs (by first|rfl|omega|(simp<;>omega)) ?_
   refine qaa ?_
   rw[show n6.toNat=b.length by omega,List.take_length] at hr1_2
   exact⟨by dsimp only;omega,fun o h=>by rw[hr1_2] at h;simp only[Option.some.injEq,Prod.mk.injEq] at h;rw[h.2]⟩
theorem q1E {b:List UInt8} (p0:b.length≤1000000):W (qph b) (fun r=>r.2.2.2.length≤512∧(r.1=0→9≤b.length∧r.2.1=((b.getD 0 0).toNat:Int)∧r.2.2.2=(b.take (b.length-4)).drop 5)):=by
 unfold qph qkK
 refine W_wi (by omega) fun n1 hn1=>?_
 refine W_if (fun c1=>?_) fun c1=>?_
 ·refine qaa ?_
  exact⟨by simp,fun h=>by simp at h⟩
 ·refine qaf (by first|omega|(rw[List.length_drop];omega)|(simp<;>omega)) ?_
  refine qab (qvT) ?_
  rintro⟨n2,n3⟩ hn2
  try dsimp only at hn2
  refine qaf (by first|omega|(rw[List.length_drop];omega)|(simp<;>omega)) ?_
  refine qaf (by first|omega|(rw[List.length_drop];omega)|(simp<;>omega)) ?_
  refine qab (qvT) ?_
  rintro⟨n4,n5⟩ hn4
  try dsimp only at hn4
  refine qaf (by first|omega|(rw[List.length_drop];omega)|(simp<;>omega)) ?_
  refine qaf (by first|omega|(rw[List.length_drop];omega)|(simp<;>omega)) ?_
  refine qab (q3S (by first|omega|assumption|(simp<;>omega))) ?_
  rintro n6 hn6
  refine qac fun n7 hn7=>?_
  refine W_if (fun c7=>?_) fun c7=>?_
  ·refine qaa ?_
   exact⟨by simp,fun h=>by simp at h⟩
  ·refine qaf (by first|omega|(rw[List.length_drop];omega)|(simp<;>omega)) ?_
   refine qac fun x8 hx8=>?_
   refine qac fun n9 hn9=>?_
   refine qaf (by first|omega|(rw[List.length_drop];omega)|(simp<;>omega)) ?_
   refine qaf (by first|omega|(rw[List.length_drop];omega)|(simp<;>omega)) ?_
   refine qab (qdu (by first|omega|assumption|(simp<;>omega))) ?_
   rintro z10 hz10
   refine W_rs (by first|rfl|omega|(simp<;>omega)) ?_
   refine qaa ?_
   exact⟨by rw[hz10];simp;omega,fun _=>⟨by omega,by dsimp only;rw[hx8];rfl,by dsimp only;rw[hz10,show n1.toNat=b.length-4 by omega];rfl⟩⟩
theorem qm0 {b:List UInt8} (p0:b.length≤1000000):W (qcv b) (fun r=>r.2.2.2.length≤512∧(r.1=true→9≤b.length)∧∀ o,qfM b=some (false,o)→r.1=true→r.2.1=((o.getD 0 0).toNat:Int)∧r.2.2.2=(o.take (o.length-4)).drop 5):=by
 unfold qcv qhW
 refine qab (q1D (by first|omega|assumption|(simp<;>omega))) ?_
 rintro⟨z1,n2⟩ hz1
 try dsimp only at hz1
 refine W_if (fun c1=>?_) fun c1=>?_
 ·refine qaa ?_
  exact⟨by simp,fun h=>by simp at h,fun _ _ h=>by simp at h⟩
 ·refine qab (q1E (by rw[List.take_length];omega)) ?_
  rintro⟨n3,n4,n5,z6⟩ hn3
  try dsimp only at hn3
  rw[List.take_length] at hn3
  refine W_rs (by first|rfl|omega|(simp<;>omega)) ?_
  refine qaa ?_
  refine⟨hn3.1,fun h=>?_,fun o h g=>?_⟩
  · have:=(hn3.2 (by simpa using h)).1;omega
  · have e:=hz1.2 o h
    simp only[Prod.mk.injEq] at e
    rw[← e.1]
    exact(hn3.2 (by simpa using g)).2
theorem qfb {s:List UInt8} {c:Int} (p0:s.length≤1000000):W (qba s c) (fun r=>(-1≤r∧r<s.length)∧(((s.getD (s.length-1) 0).toNat:Int)=c→r=s.length-1)):=by
 unfold qba qaU
 refine W_wi (by omega) fun n1 hn1=>?_
 refine qaj (fun v=>∃ n5,v=((),(),s,c,n5,())∧(-1≤n5∧n5<s.length)∧(((s.getD (s.length-1) 0).toNat:Int)=c→n5=s.length-1)) (fun(_,_,_,_,n5,_)=>(n5+1).toNat) ⟨_,rfl,by omega,fun _=>by omega⟩ (by simp only[NN];omega) ?_
 rintro r2 _ ⟨n5,rfl,hr2_0,hr2_1⟩ ihr2
 refine W_if (fun c1=>?_) fun c1=>?_
 ·refine W_ix (by omega) fun x6 hx6=>?_
  refine W_if (fun c2=>?_) fun c2=>?_
  ·refine qaa ?_
   exact⟨by omega,hr2_1⟩
  ·refine W_wi (by omega) fun n7 hn7=>?_
   exact ihr2.use _ ⟨_,rfl,by omega,fun h=>absurd (by rw[hx6,show n5.toNat=s.length-1 by have:=hr2_1 h;omega];exact h) c2⟩ (by dsimp only;omega)
 ·refine qaa ?_
  exact⟨by omega,fun h=>by have:=hr2_1 h;omega⟩
theorem qhh {s:List UInt8} {c:Int} (p0:s.length≤1000000):W (qb8 s c) (fun r=>(-1≤r∧r<s.length)∧(((s.getD (s.length-1) 0).toNat:Int)=c→r=s.length-1)):=by
 unfold qb8 qbl
 refine qab (qfb (by first|omega|assumption|(simp<;>omega))) ?_
 rintro n1 hn1
 refine qaa ?_
 first|omega|simp|trivial
theorem q5e:W (quI ) (fun r=>r=(false,false,true)):=by
 unfold quI qoy
 refine qaa ?_
 rfl
theorem qzr {r:Bool} {r2:Bool} {r3:Bool} {b:List UInt8} (p0:b.length≤1000000):W (qlc r r2 r3 b) (fun q=>(∀ m∈q.1,m.body.length≤512)∧(q.1.length:Int)≤b.length∧(b.length≤16384→r3=true→q=(msgs (r,r2,[]) b,0)∧10*q.1.length≤b.length)):=by
 unfold qlc qhZ
 refine W_if (fun c1=>?_) fun c1=>?_
 ·refine qaa ?_
  exact⟨by simp,by simp,fun _ h=>absurd h c1⟩
 ·refine W_if (fun c2=>?_) fun c2=>?_
  ·refine qaa ?_
   exact⟨by simp,by simp,fun h=>by omega⟩
  ·refine qaj (fun v=>∃ z2 z3 x4 b5 b6 n10,v=((z2,z3,()),((x4,b5,b6,r3,()),()),b,(b.length:Int),n10,())∧(0≤n10∧n10≤(b.length:Int))∧((z3.length:Int)≤n10)∧(x4≤2000)∧((∀ m∈z3,m.body.length≤512))∧(x4≤z2.length)∧(10*z3.length+x4≤n10)∧(At (r,r2,[]) b n10 (b5,b6,List.take x4 z2) z3)) (fun((z2,z3,_),((x4,b5,b6,_,_),_),_,_,n10,_)=>((b.length:Int)-n10).toNat) ⟨_,_,_,_,_,_,rfl,by omega,by simp,by omega,by simp,by simp,by simp,⟨rfl,rfl⟩⟩ (by simp only[NN];omega) ?_
   rintro r1 _ ⟨z2,z3,x4,b5,b6,n10,rfl,hr1_0,hr1_1,hr1_2,hr1_3,hr1_4,hr1_5,hr1_6⟩ ihr1
   refine W_if (fun c3=>?_) fun c3=>?_
   ·refine W_ix (by omega) fun x11 hx11=>?_
    refine W_if (fun c4=>?_) fun c4=>?_
    ·refine qab (ql6 (qm0 (by rw[List.length_take];omega))) ?_
     rintro⟨b16,n17,n18,z19⟩ hb16
     try dsimp only at hb16
     obtain⟨hb16,eb16⟩:=hb16
     rw[List.length_take] at hb16
     refine W_if (fun c5=>?_) fun c5=>?_
     ·refine W_rm (by first|omega|(rw[List.length_drop];omega)|(simp<;>omega)) ?_
      refine qac fun z21 hz21=>?_
      have lz21:=congrArg List.length hz21;try simp at lz21
      refine qah (by omega) fun n22 hn22=>?_
      refine W_rs (by first|rfl|omega|(simp<;>omega)) ?_
      exact ihr1.use _ ⟨_,_,_,_,_,_,rfl,by omega,by omega,by omega,qd2 hr1_3 hz21 (by dsimp only;rw[List.take_length];exact hb16.1),by simp,by have:=hb16.2.1 c5.1.1;omega,hr1_6.go (by omega) hx11 hn22 (rs_end c4) (em_yes c4 eb16 c5 hz21)⟩ (by dsimp only;omega)
     ·refine qah (by omega) fun n20 hn20=>?_
      refine W_rs (by first|rfl|omega|(simp<;>omega)) ?_
      exact ihr1.use _ ⟨_,_,_,_,_,_,rfl,by omega,by omega,by omega,hr1_3,by simp,by simp;omega,hr1_6.go (by omega) hx11 hn20 (rs_end c4) (em_no eb16 c5)⟩ (by dsimp only;omega)
    ·refine W_if (fun c9=>?_) fun c9=>?_
     ·refine qah (by omega) fun n15 hn15=>?_
      refine W_rs (by first|rfl|omega|(simp<;>omega)) ?_
      exact ihr1.use _ ⟨_,_,_,_,_,_,rfl,by omega,by omega,by omega,hr1_3,hr1_4,by omega,hr1_6.go (by omega) hx11 hn15 (rs_long c4 c9 hr1_4) (q74 c4)⟩ (by dsimp only;omega)
     ·refine W_if (fun c11=>?_) fun c11=>?_
      ·refine qaf (by first|omega|(rw[List.length_drop];omega)|(simp<;>omega)) ?_
       refine qac fun z13 hz13=>?_
       have lz13:=congrArg List.length hz13;try simp at lz13
       refine qah (by omega) fun n14 hn14=>?_
       refine W_rs (by first|rfl|omega|(simp<;>omega)) ?_
       exact ihr1.use _ ⟨_,_,_,_,_,_,rfl,by omega,by omega,by omega,hr1_3,by rw[hz13];simp;omega,by omega,hr1_6.go (by omega) hx11 hn14 (rs_more c4 c9 hr1_4 c11 hz13) (q74 c4)⟩ (by dsimp only;omega)
      ·refine qah (by omega) fun n12 hn12=>?_
       refine W_rs (by first|rfl|omega|(simp<;>omega)) ?_
       exact ihr1.use _ ⟨_,_,_,_,_,_,rfl,by omega,by omega,by omega,hr1_3,hr1_4,by omega,hr1_6.go (by omega) hx11 hn12 (rs_none c4 c9 hr1_4 c11) (q74 c4)⟩ (by dsimp only;omega)
   ·refine qaa ?_
    have e:=hr1_6.2
    rw[show n10.toNat=b.length by omega,List.take_length] at e
    rw[List.take_length]
    exact⟨hr1_3,by dsimp only;omega,fun _ _=>⟨by rw[← e],by dsimp only;omega⟩⟩
theorem qq2 {b:List UInt8} (p0:b.length≤1000000):W (qj1 b) (fun r=>(∀ m∈r.1,m.body.length≤512)∧(r.1.length:Int)≤b.length∧(-1≤r.2.1∧r.2.1≤b.length)∧(b.length≤16384→r.1=msgs (false,false,[]) b∧10*r.1.length≤b.length∧(b.getD (b.length-1) 0=126→r.2.1=b.length-1))):=by
 unfold qj1 qlk
 refine W_if (fun c1=>?_) fun c1=>?_
 ·refine qaa ?_
  exact⟨by simp,by simp,by dsimp only;omega,fun h=>by omega⟩
 ·refine qab (q5e) ?_
  rintro⟨b1,b2,b3⟩ hb1
  try dsimp only at hb1
  simp only[Prod.mk.injEq] at hb1
  obtain⟨rfl,rfl,rfl⟩:=hb1
  refine qab (qzr (by first|omega|assumption|(simp<;>omega))) ?_
  rintro⟨z4,n5⟩ hz4
  try dsimp only at hz4
  refine qab (qhh (by first|omega|assumption|(simp<;>omega))) ?_
  rintro n6 hn6
  refine qaa ?_
  exact⟨hz4.1,hz4.2.1,by dsimp only;omega,fun h=>⟨by have e:=(hz4.2.2 h rfl).1;simp only[Prod.mk.injEq] at e;exact e.1,(hz4.2.2 h rfl).2,fun g=>hn6.2 (by rw[g];rfl)⟩⟩
theorem qwa {m:Msg} (p0:m.body.length≤140737488355328):W (qhM m) (fun r=>r.1.length≤600∧(r.2=0→m.body.length≤512∧∃ q z,q.length=4∧z.length=4∧r.1=m.kind::(q++m.body++z))):=by
 unfold qhM qbu
 have u:=qcQ m.seq
 refine W_if (fun c1=>?_) fun c1=>?_
 ·refine qaa ?_
  exact⟨by simp,fun h=>by simp at h⟩
 ·refine W_wu (by omega) fun n1 hn1=>?_
  refine qab (qvU (by first|omega|assumption|(simp<;>omega)) (by first|omega|assumption|(simp<;>omega))) ?_
  rintro⟨z2,n3⟩ hz2
  try dsimp only at hz2
  have e2:=hz2.2.2.2 rfl (by omega)
  have e3:=hz2.2.1 e2
  refine qaz (fun((z17,_),_,_)=>(z17.length≤530∧z17=m.kind::(z2++m.body))) (fun J4 hJ4=>?_) ?_
  ·refine W_sm ?_
   refine qaf (by first|omega|(rw[List.length_drop];omega)|(simp<;>omega)) ?_
   refine qac fun z5 hz5=>?_
   have lz5:=congrArg List.length hz5;try simp at lz5
   rw[ap0,List.take_length] at hz5
   have l5:=congrArg List.length hz5;rw[List.length_cons] at l5
   refine qaf (by first|omega|(rw[List.length_drop];omega)|(simp<;>omega)) ?_
   refine qac fun z6 hz6=>?_
   have lz6:=congrArg List.length hz6;try simp at lz6
   have l6:=congrArg List.length hz6;rw[List.length_append,List.length_take] at l6
   refine W_rs (by first|rfl|omega|(simp<;>omega)) ?_
   exact hJ4.use _ (by dsimp only;exact⟨by omega,by rw[hz6,hz5,List.take_of_length_le (by simp;omega),Int.toNat_natCast,UInt8.ofNat_toNat];rfl⟩)
  ·rintro⟨⟨z17,_⟩,_,_⟩ kJ4;dsimp only at kJ4
   refine qab (q3S (by first|omega|assumption|(simp<;>omega))) ?_
   rintro n18 hn18
   refine W_wu (by omega) fun n19 hn19=>?_
   refine qab (qvU (by first|omega|assumption|(simp<;>omega)) (by first|omega|assumption|(simp<;>omega))) ?_
   rintro⟨z20,n21⟩ hz20
   try dsimp only at hz20
   have e20:=hz20.2.2.2 rfl (by omega)
   have e21:=hz20.2.1 e20
   refine W_rm (by first|omega|(rw[List.length_drop];omega)|(simp<;>omega)) ?_
   refine qac fun z22 hz22=>?_
   have lz22:=congrArg List.length hz22;try simp at lz22
   refine W_rs (by first|rfl|omega|(simp<;>omega)) ?_
   refine qaa ?_
   exact⟨by dsimp only;omega,fun _=>⟨by omega,z2,z20,by omega,by omega,by dsimp only;rw[hz22,List.take_length,List.take_length,kJ4.2];rfl⟩⟩
theorem qm1 {m:Msg} (p0:m.body.length≤140737488355328):W (qg8 m) (fun r=>r.1.length≤1300∧(r.2=0→m.body.length≤512∧(∃ c,9≤c.length∧c.length≤521∧c.getD 0 0=m.kind∧(c.take (c.length-4)).drop 5=m.body∧r.1=126::(stf c++[126])))):=by
 unfold qg8 qhV
 refine qab (qwa (by first|omega|assumption|(simp<;>omega))) ?_
 rintro⟨z1,n2⟩ hz1
 try dsimp only at hz1
 refine W_if (fun c1=>?_) fun c1=>?_
 ·refine qaa ?_
  exact⟨by simp,fun h=>absurd h c1⟩
 ·refine qab (qzq (by rw[List.take_length];omega)) ?_
  rintro z3 hz3
  rw[List.take_length] at hz3
  have ls:=qq0 z1
  rw[← hz3] at ls
  refine qaf (by first|omega|(rw[List.length_drop];omega)|(simp<;>omega)) ?_
  refine qac fun z4 hz4=>?_
  have lz4:=congrArg List.length hz4;try simp at lz4
  rw[ap0,List.take_length] at hz4
  have l4:=congrArg List.length hz4;rw[List.length_cons] at l4
  refine qaf (by first|omega|(rw[List.length_drop];omega)|(simp<;>omega)) ?_
  refine qac fun z5 hz5=>?_
  have lz5:=congrArg List.length hz5;try simp at lz5
  have l5:=congrArg List.length hz5;rw[List.length_append,List.length_take,List.length_singleton] at l5
  refine W_rs (by first|rfl|omega|(simp<;>omega)) ?_
  refine qaa ?_
  obtain⟨hb,q,w,lq,lw,e⟩:=hz1.2 (Classical.not_not.1 c1)
  rw[Int.toNat_natCast,UInt8.ofNat_toNat] at e
  have le:=congrArg List.length e
  simp only[List.length_cons,List.length_append] at le
  refine⟨by dsimp only;omega,fun _=>⟨hb,z1,by omega,by omega,by rw[e];rfl,by rw[e];exact mid lq lw,?_⟩⟩
  dsimp only;rw[hz5,hz4,List.take_of_length_le (by simp;omega),hz3];rfl
end Go.Proofs.YtcdppfnjidlknaaGreatDoor
