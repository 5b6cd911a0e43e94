import Derived.Test.YtcdppfnjidlknaaGreatDoorYbe
set_option linter.unusedVariables false
set_option linter.unusedSimpArgs false
namespace Go.Proofs.YtcdppfnjidlknaaGreatDoor
open Go Go.Eng Go.Proofs Go.Wp
theorem q5L {α:Type}{l:List α}(d:α){n m:Int}(h:0≤n∧n<l.length)(e:m=n+1):l.take m.toNat=l.take n.toNat++[l.getD n.toNat d]:=by
  rw[e,show (n+1).toNat=n.toNat+1 by omega,List.take_add_one,List.getElem?_eq_getElem (by omega),List.getD_eq_getElem?_getD,List.getElem?_eq_getElem (by omega)];rfl
def lst (a:Bool×Int×List Msg)(m:Msg):Bool×Int×List Msg:=if a.1=true∧(m.seq.toNat:Int)≤a.2.1 then a else (true,(m.seq.toNat:Int),a.2.2++[m])
abbrev lfo (a:Bool×Int×List Msg)(l:List Msg):Bool×Int×List Msg:=l.foldl lst a
theorem qut {α:Type}{f:α→Msg→α}{a s:α}{l:List Msg}{n m:Int}{x:Msg}(h:s=(l.take n.toNat).foldl f a)(g:0≤n∧n<l.length)(ex:x=l.getD n.toNat (dflt 8))(em:m=n+1):f s x=(l.take m.toNat).foldl f a:=by
  rw[q5L (dflt 8) g em,← ex,h,List.foldl_append];rfl
theorem lfo_no {b:Bool}{n:Int}{z:List Msg}{x:Msg}(c:b=true∧(x.seq.toNat:Int)≤n):(b,n,z)=lst (b,n,z) x:=by
  unfold lst
  rw[if_pos c]
theorem lfo_yes {b:Bool}{n:Int}{z z':List Msg}{x:Msg}(c:¬ (b=true∧(x.seq.toNat:Int)≤n))(ez:z'=z++[x]):(true,(x.seq.toNat:Int),z')=lst (b,n,z) x:=by
  unfold lst
  rw[if_neg c,ez]
theorem qgh {r:List UInt8}{r2:Bool}{most:Int}(p0:r.length≤140737488355328)(p1:0≤most∧most≤1048576):W (qim r r2 most) (fun q=>q.2.1.length≤r.length∧0≤q.1∧q.1≤most):=by
 unfold qim qvF
 refine qab (qkr (by omega)) ?_
 rintro⟨n1,n2,n3⟩ hn1
 dsimp only at hn1
 refine W_wu (by omega) fun n4 hn4=>?_
 refine W_if (fun c1=>?_) fun c1=>?_
 ·refine qaa ?_
  exact⟨Nat.le_refl _,Int.le_refl 0,p1.1⟩
 ·refine qaf (by omega) ?_
  refine qaf (by omega) ?_
  refine W_wi (by omega) fun n5 hn5=>?_
  refine qaa ?_
  dsimp only;rw[List.length_drop];omega
theorem qrj {n:Int}:W (qjg n) (fun r=>r=true↔0≤n∧n≤65535):=by
 unfold qjg qkJ
 refine qaa ?_
 cases h1:decide (n≥0)<;>simp at h1 ⊢<;>omega
theorem quu {l:List Int}(p0:l.length≤1000)(p1:∀ x∈l,0≤x∧x<9223372036854775808):W (qe9 l) (fun r=>r.length≤0+10*l.length):=by
 unfold qe9 qpD
 refine qaj (fun v=>∃ z2 n5,v=((z2,()),(),l,(l.length:Int),n5,())∧(0≤n5∧n5≤(l.length:Int))∧((z2.length:Int)≤0+10*n5)) (fun((z2,_),_,_,_,n5,_)=>((l.length:Int)-n5).toNat) ⟨_,_,rfl,by omega,by simp⟩ (by simp only[NN];omega) ?_
 rintro r1 _ ⟨z2,n5,rfl,hr1_0,hr1_1⟩ ihr1
 refine W_if (fun c1=>?_) fun c1=>?_
 ·refine W_ix (by omega) fun n6 hn6=>?_
  have g6:=qaq (d:=(0:Int)) p1 (n:=n5) (by omega)
  rw[← hn6] at g6
  refine W_wu (by omega) fun n7 hn7=>?_
  refine qab (qc9 (by omega)) ?_
  rintro z8 hz8
  refine W_rm (by omega) ?_
  refine qac fun z9 hz9=>?_
  have lz9:=congrArg List.length hz9;try simp at lz9
  refine qah (by omega) fun n10 hn10=>?_
  refine W_rs (by omega) ?_
  exact ihr1.use _ ⟨_,_,rfl,by omega,by omega⟩ (by dsimp only;omega)
 ·refine W_rs rfl ?_
  refine qaa ?_
  first|omega|simp|trivial
theorem q0g {b:List UInt8}{l:List Int}(p0:l.length≤1000)(p1:∀ x∈l,0≤x∧x<9223372036854775808)(p2:b.length≤1000000):W (qiu b l) (fun r=>r.length≤b.length+10*l.length):=by
 unfold qiu qvX
 refine W_rs rfl ?_
 refine qaj (fun v=>∃ z2 n5,v=((z2,()),(),l,(l.length:Int),n5,())∧(0≤n5∧n5≤(l.length:Int))∧((z2.length:Int)≤b.length+10*n5)) (fun((z2,_),_,_,_,n5,_)=>((l.length:Int)-n5).toNat) ⟨_,_,rfl,by omega,by omega⟩ (by simp only[NN];omega) ?_
 rintro r1 _ ⟨z2,n5,rfl,hr1_0,hr1_1⟩ ihr1
 refine W_if (fun c2=>?_) fun c2=>?_
 ·refine W_ix (by omega) fun n6 hn6=>?_
  have g6:=qaq (d:=(0:Int)) p1 (n:=n5) (by omega)
  rw[← hn6] at g6
  refine W_wu (by omega) fun n7 hn7=>?_
  refine qab (qc9 (by omega)) ?_
  rintro z8 hz8
  refine W_rm (by omega) ?_
  refine qac fun z9 hz9=>?_
  have lz9:=congrArg List.length hz9;try simp at lz9
  refine qah (by omega) fun n10 hn10=>?_
  refine W_rs (by omega) ?_
  exact ihr1.use _ ⟨_,_,rfl,by omega,by omega⟩ (by dsimp only;omega)
 ·refine W_rs rfl ?_
  refine qaa ?_
  first|omega|simp|trivial
theorem qwB {c:Int}{c2:Int}{c3:Int}{c4:List Int}(p0:c4.length≤8∧∀ x∈c4,0≤x∧x≤1048576):W (qi2 c c2 c3 c4) (fun r=>r.1.length≤1000):=by
 unfold qi2 qb1
 refine qab (qrj) ?_
 rintro b1 hb1
 refine W_if (fun c1=>?_) fun c1=>?_
 ·refine qaa ?_
  simp
 ·refine qab (qi7 (by simp;omega)) ?_
  rintro⟨z2,n3⟩ hz2
  dsimp only at hz2
  refine W_if (fun c2=>?_) fun c2=>?_
  ·refine qaa ?_
   simp
  ·refine W_sm ?_
   refine qab (quu (by simp) (by have h:=(hz2.2 (Classical.not_not.1 (by assumption))).2 _ (List.mem_singleton.2 rfl);unfold Tk at h;dsimp only at h;have g:=hb1.1 (by simpa using c1);simp;omega)) ?_
   rintro z4 hz4
   refine W_rs rfl ?_
   refine qab (q0g (by omega) (fun x hx=>by have:=p0.2 x hx;omega) (by simp at hz4;omega)) ?_
   rintro z5 hz5
   refine W_rs rfl ?_
   refine qaa ?_
   dsimp only;simp at hz4;omega
theorem q2B {l:Bool}{l2:Int}{l3:Int}(p0:(0≤l3∧l3≤1048576)∧(l=false→l2=0)):W (qoR l l2 l3) (fun r=>r=0):=by
 unfold qoR qkL
 refine W_if (fun c1=>?_) fun c1=>?_
 ·refine qaa ?_
  exfalso;rcases c1 with h|⟨h,g⟩
  · omega
  · exact g (p0.2 (by simpa using h))
 ·refine qaa ?_
  rfl
theorem q5M {last:Int}(p0:0≤last∧last<4294967296):W (qvn last) (fun r=>r.2=0→0≤r.1∧r.1<4294967296):=by
 unfold qvn qoS
 refine W_if (fun c1=>?_) fun c1=>?_
 ·refine qaa ?_
  first|omega|simp|trivial
 ·refine W_wq (by omega) fun n1 hn1=>?_
  refine qaa ?_
  first|omega|simp|trivial
theorem qgi {b:List UInt8}(p0:b.length≤140737488355328):W (qa6 b) (fun r=>r.2.2.2.2.length≤8∧(∀ x∈r.2.2.2.2,0≤x∧x≤1048576)):=by
 unfold qa6 qaS
 refine qab (qgh (by omega) (by omega)) ?_
 rintro⟨n1,z2,b3⟩ hn1
 dsimp only at hn1
 refine qab (qgh (by omega) (by omega)) ?_
 rintro⟨n4,z5,b6⟩ hn4
 dsimp only at hn4
 refine qab (qgh (by omega) (by omega)) ?_
 rintro⟨n7,z8,b9⟩ hn7
 dsimp only at hn7
 refine qab (qgh (by omega) (by omega)) ?_
 rintro⟨n10,z11,b12⟩ hn10
 dsimp only at hn10
 refine qaj (fun v=>∃ z14 z22 b23 n26,v=((z14,()),((n1,n4,n7,()),((0:Int),(0:Int),(0:Int),qfr,()),(z22,b23,()),()),b,((),()),n10,n26,())∧(0≤n26∧n26≤n10)∧((z14.length:Int)=n26)∧(∀ x∈z14,0≤x∧x≤1048576)∧(z22.length≤b.length)) (fun((z14,_),((_,_,_,_),(_,_,_,_,_),(z22,b23,_),_),_,(_,_),_,n26,_)=>(n10-n26).toNat) ⟨_,_,_,_,rfl,by omega,by simp,by simp,by omega⟩ (by simp only[NN];omega) ?_
 rintro r13 _ ⟨z14,z22,b23,n26,rfl,hr13_0,hr13_1,hr13_2,hr13_3⟩ ihr13
 refine W_if (fun c1=>?_) fun c1=>?_
 ·refine qa3 (fun((z43,_),((n44,n45,n46,_),(n47,n48,n49,z50,_),(z51,b52,_),_),z53,(_,_),n54,n55,_)=>n1=n44∧n4=n45∧n7=n46∧(0:Int)=n47∧(0:Int)=n48∧(0:Int)=n49∧qfr=z50∧b=z53∧n10=n54∧n26=n55∧((z43.length:Int)=n26+1∧(∀ x∈z43,0≤x∧x≤1048576)∧z51.length≤b.length)) (fun J30 hJ30=>?_) ?_
  ·refine W_sm ?_
   refine qab (qgh (by omega) (by omega)) ?_
   rintro⟨n31,z32,b33⟩ hn31
   dsimp only at hn31
   refine W_rm (by omega) ?_
   refine qac fun z34 hz34=>?_
   have lz34:=congrArg List.length hz34;try simp at lz34
   refine W_rs (by omega) ?_
   exact hJ30.use _ (by dsimp only;exact⟨rfl,rfl,rfl,rfl,rfl,rfl,rfl,rfl,rfl,rfl,by omega,qdH hr13_2 hz34 hn31.2,by omega⟩)
  ·rintro⟨⟨z43,_⟩,⟨⟨n44,n45,n46,_⟩,⟨n47,n48,n49,z50,_⟩,⟨z51,b52,_⟩,_⟩,z53,⟨_,_⟩,n54,n55,_⟩ kJ30;dsimp only at kJ30
   obtain⟨rfl,rfl,rfl,rfl,rfl,rfl,rfl,rfl,rfl,rfl,kJ30⟩:=kJ30
   obtain⟨k1,k2,k3⟩:=kJ30
   refine qah (by omega) fun n56 hn56=>?_
   refine W_rs rfl ?_
   exact ihr13.use _ ⟨_,_,_,_,rfl,by omega,by omega,k2,k3⟩ (by dsimp only;omega)
 ·refine qab (qwB (by rw[List.take_length];exact⟨by omega,hr13_2⟩)) ?_
  rintro⟨z27,n28⟩ hz27
  dsimp only at hz27
  refine W_if (fun c5=>?_) fun c5=>?_
  ·refine qaa ?_
   first|(simp;done)|(dsimp only;rw[List.take_length];exact⟨by omega,hr13_2⟩)
  ·refine qab (qgc) ?_
   rintro b29 hb29
   refine W_if (fun c6=>?_) fun c6=>?_
   ·refine qaa ?_
    first|(simp;done)|(dsimp only;rw[List.take_length];exact⟨by omega,hr13_2⟩)
   ·refine qaa ?_
    first|(simp;done)|(dsimp only;rw[List.take_length];exact⟨by omega,hr13_2⟩)
theorem qlU {l:Bool}{l2:Int}{l3:Int}{got:List Msg}(p0:(0≤l3∧l3≤1048576)∧(0≤l2∧l2<4294967296)∧(l=false→l2=0))(p1:got.length≤1000000):W (qj4 l l2 l3 got) (fun r=>r.1.length≤1024∧(∀ m∈r.1,m.body.length≤512)∧((0≤r.2.2.2.2∧r.2.2.2.2≤1048576)∧(0≤r.2.2.2.1∧r.2.2.2.1<4294967296)∧(r.2.2.1=false→r.2.2.2.1=0))∧(got.length≤1024→(∀ m∈got,m.body.length≤512)→r=((lfo (l,l2,[]) got).2.2,0,(lfo (l,l2,[]) got).1,(lfo (l,l2,[]) got).2.1,if (lfo (l,l2,[]) got).2.2=[] then min (l3+1) 1048576 else 0))):=by
 unfold qj4 qdU
 refine qab (q2B ⟨p0.1,p0.2.2⟩) ?_
 rintro n1 hn1
 refine W_if (fun c1=>?_) fun c1=>?_
 ·refine qaa ?_
  exact absurd hn1 c1
 ·refine W_if (fun c2=>?_) fun c2=>?_
  ·refine qaa ?_
   exact⟨by simp,by simp,by simp,fun h=>by omega⟩
  ·refine qaj (fun v=>∃ n12,v=((),((l,l2,l3,()),(false,(0:Int),(0:Int),()),()),got,got,(got.length:Int),n12,())∧(0≤n12∧n12≤(got.length:Int))∧(Upto (fun m:Msg=>m.body.length≤512) got (dflt 8) n12)) (fun(_,((_,_,_,_),(_,_,_,_),_),_,_,_,n12,_)=>((got.length:Int)-n12).toNat) ⟨_,rfl,by omega,Upto.zero⟩ (by simp only[NN];omega) ?_
   rintro r2 _ ⟨n12,rfl,hr2_0,hr2_1⟩ ihr2
   refine W_if (fun c3=>?_) fun c3=>?_
   ·refine W_ix (by omega) fun x43 hx43=>?_
    refine W_if (fun c4=>?_) fun c4=>?_
    ·refine qaa ?_
     exact⟨by simp,by simp,by simp,fun _ h=>absurd (h x43 (by rw[hx43];exact qb6 (by omega))) (by omega)⟩
    ·refine qah (by omega) fun n44 hn44=>?_
     exact ihr2.use _ ⟨_,rfl,by omega,hr2_1.succ (by omega) hn44 (by rw[← hx43];omega)⟩ (by dsimp only;omega)
   ·refine qaj (fun v=>∃ z14 b15 n16 n23,v=((z14,()),((b15,n16,l3,()),(false,(0:Int),(0:Int),()),()),got,(got.length:Int),n23,())∧(0≤n23∧n23≤(got.length:Int))∧((z14.length:Int)≤n23)∧((∀ m∈z14,m.body.length≤512))∧((0≤n16∧n16<4294967296)∧(b15=false→n16=0))∧((b15,n16,z14)=lfo (l,l2,[]) (got.take n23.toNat))) (fun((z14,_),((b15,n16,_,_),(_,_,_,_),_),_,_,n23,_)=>((got.length:Int)-n23).toNat) ⟨_,_,_,_,rfl,by omega,by simp,by simp,p0.2,rfl⟩ (by simp only[NN];omega) ?_
    rintro r13 _ ⟨z14,b15,n16,n23,rfl,hr13_0,hr13_1,hr13_2,hr13_3,hr13_4⟩ ihr13
    refine W_if (fun c5=>?_) fun c5=>?_
    ·refine W_ix (by omega) fun x26 hx26=>?_
     have g26:=qaq (d:=dflt 8) (n:=n23) (hr2_1.all (by omega)) (by omega)
     rw[← hx26] at g26
     refine W_if (fun c6=>?_) fun c6=>?_
     ·refine qah (by omega) fun n42 hn42=>?_
      refine W_rs rfl ?_
      exact ihr13.use _ ⟨_,_,_,_,rfl,by omega,by omega,hr13_2,hr13_3,(lfo_no c6).trans (qut hr13_4 (by omega) hx26 hn42)⟩ (by dsimp only;omega)
     ·refine qa3 (fun((z28,_),((b29,n30,n31,_),(b32,n33,n34,_),(x35,_),_),z36,n37,n38,_)=>z14=z28∧true=b29∧(↑x26.seq.toNat:Int)=n30∧l3=n31∧false=b32∧(0:Int)=n33∧(0:Int)=n34∧{kind:=UInt8.ofNat (↑x26.kind.toNat:Int).toNat,seq:=UInt32.ofNat (↑x26.seq.toNat:Int).toNat,body:=x26.body:Msg}=x35∧got=z36∧(got.length:Int)=n37∧n23=n38∧(True)) (fun J27 hJ27=>?_) ?_
      ·refine W_sm ?_
       refine W_rs rfl ?_
       exact hJ27.use _ (by dsimp only;exact⟨rfl,rfl,rfl,rfl,rfl,rfl,rfl,rfl,rfl,rfl,rfl,trivial⟩)
      ·rintro⟨⟨z28,_⟩,⟨⟨b29,n30,n31,_⟩,⟨b32,n33,n34,_⟩,⟨x35,_⟩,_⟩,z36,n37,n38,_⟩ kJ27;dsimp only at kJ27
       obtain⟨rfl,rfl,rfl,rfl,rfl,rfl,rfl,rfl,rfl,rfl,rfl,kJ27⟩:=kJ27
       refine qab (qd8 (by simp;omega)) ?_
       rintro z39 hz39
       refine W_rm (by omega) ?_
       refine qac fun z40 hz40=>?_
       have lz40:=congrArg List.length hz40;try simp at lz40
       have u26:=qdd x26.seq
       have e40:=hz40
       simp only[Int.toNat_natCast,UInt8.ofNat_toNat,UInt32.ofNat_toNat,List.take_length,hz39] at e40
       refine qah (by omega) fun n41 hn41=>?_
       refine W_rs (by omega) ?_
       exact ihr13.use _ ⟨_,_,_,_,rfl,by omega,by omega,qdH hr13_2 hz40 (by dsimp only;rw[List.take_length,hz39];exact g26),⟨by omega,fun h=>by simp at h⟩,(lfo_yes c6 e40).trans (qut hr13_4 (by omega) hx26 hn41)⟩ (by dsimp only;omega)
    ·refine qah (by omega) fun n24 hn24=>?_
     refine qac fun n25 hn25=>?_
     refine W_if (fun c11=>?_) fun c11=>?_
     ·refine qaa ?_
      have e:=hr13_4
      rw[show n23.toNat=got.length by omega,List.take_length] at e
      rw[List.take_length,← e]
      exact⟨by dsimp only;omega,hr13_2,⟨⟨by dsimp only;omega,by dsimp only;omega⟩,hr13_3⟩,fun _ _=>by dsimp only;rw[if_neg (fun h=>by rw[h] at c11;simp at c11)]⟩
     ·refine qaa ?_
      have e:=hr13_4
      rw[show n23.toNat=got.length by omega,List.take_length] at e
      rw[List.take_length,← e]
      exact⟨by dsimp only;omega,hr13_2,⟨⟨by dsimp only;omega,by dsimp only;omega⟩,hr13_3⟩,fun _ _=>by dsimp only;rw[if_pos (List.eq_nil_of_length_eq_zero (by omega)),hn25,hn24]⟩
end Go.Proofs.YtcdppfnjidlknaaGreatDoor
namespace Go.Proofs.YtcdppfnjidlknaaGreatDoor
open Go Go.Eng Go.Proofs Go.Wp
theorem ap0 (X:List UInt8):List.append._f [] PUnit.unit X=X:=rfl
theorem and_15 (x:Int):0≤bits .and .u32 x 15∧bits .and .u32 x 15<16:=by
  have e:bits .and .u32 x 15=IntKind.u32.wrap ((BitVec.ofInt 32 x &&& BitVec.ofInt 32 15).toNat:Int):=rfl
  have h:(BitVec.ofInt 32 x &&& BitVec.ofInt 32 15).toNat≤15:=by
    rw[BitVec.toNat_and];exact Nat.and_le_right
  rw[e,Go.Wp.uwrap .u32 rfl _ (by show _<4294967296;omega)]
  omega
def stf (b:List UInt8):List UInt8:=b.flatMap fun x=>if x=125∨x=126 then [125,x-32] else [x]
def qrN:Option (Bool×List UInt8)→UInt8→Option (Bool×List UInt8)
  |none,_=>none
  |some (s,o),x=>if (s=true∧x≠93∧x≠94)∨x=126 then none else if s=true then some (false,o++[x+32]) else if x=125 then some (true,o) else some (false,o++[x])
def qgf (b:List UInt8):Option (Bool×List UInt8):=b.foldl qrN (some (false,[]))
theorem qzJ {x:UInt8}(n:Nat)(h:(x.toNat:Int)=n)(hn:n<256):x=UInt8.ofNat n:=by
  apply UInt8.toNat_inj.1
  rw[UInt8.toNat_ofNat',Nat.mod_eq_of_lt (show n<2 ^ 8 from hn)];omega
theorem qw2 (a b:List UInt8):stf (a++b)=stf a++stf b:=by unfold stf;rw[List.flatMap_append]
theorem qw3 (x:UInt8):stf [x]=if x=125∨x=126 then [125,x-32] else [x]:=by unfold stf;rw[List.flatMap_singleton]
theorem qqU:∀ (b:List UInt8),(stf b).length≤2*b.length
  | []=>by simp[stf]
  |x::b=>by
    have:=qqU b
    have e:stf (x::b)=stf [x]++stf b:=qw2 [x] b
    rw[e,qw3,List.length_append]
    split<;>simp<;>omega
theorem stf_no (b:List UInt8):∀ x,x∈stf b→x≠126:=by
  intro x hx
  unfold stf at hx
  obtain⟨y,-,hy⟩:=List.mem_flatMap.1 hx
  split at hy
  · rename_i c
    simp only[List.mem_cons,List.not_mem_nil,or_false] at hy
    rcases hy with rfl|rfl
    · decide
    · rcases c with rfl|rfl<;>decide
  · rename_i c
    simp only[List.mem_cons,List.not_mem_nil,or_false] at hy
    subst hy
    exact fun e=>c (.inr e)
theorem qnV (s:Bool)(o:List UInt8)(x:UInt8):qrN (some (s,o)) x=if (s=true∧x≠93∧x≠94)∨x=126 then none else if s=true then some (false,o++[x+32]) else if x=125 then some (true,o) else some (false,o++[x]):=rfl
theorem q4v:∀ (b o:List UInt8),(stf b).foldl qrN (some (false,o))=some (false,o++b)
  | [],o=>by simp[stf]
  |x::b,o=>by
    have e:stf (x::b)=stf [x]++stf b:=qw2 [x] b
    rw[e,qw3,List.foldl_append]
    have s:List.foldl qrN (some (false,o)) (if x=125∨x=126 then [125,x-32] else [x])=some (false,o++[x]):=by
      split
      · rename_i c
        rcases c with rfl|rfl<;>rfl
      · rename_i c
        show qrN (some (false,o)) x=_
        rw[qnV,if_neg (fun h=>by rcases h with h|h;exact absurd h.1 (by decide);exact c (.inr h)),if_neg (by decide),if_neg (fun h=>c (.inl h))]
    rw[s,q4v b,List.append_assoc];rfl
theorem q8a (b:List UInt8):qgf (stf b)=some (false,b):=q4v b []
theorem quf:∀ (b:List UInt8),b.foldl qrN none=none
  | []=>rfl
  |_::b=>quf b
theorem qw4 {b:List UInt8}{n m:Int}{s:Option (Bool×List UInt8)}(h:qgf (b.take n.toNat)=s)(g:0≤n∧n<b.length)(e:m=n+1):qgf (b.take m.toNat)=qrN s (b.getD n.toNat 0):=by
  rw[q5L 0 g e]
  unfold qgf at h ⊢
  rw[List.foldl_append,h];rfl
theorem qzK {b:List UInt8}{n:Int}{s:Option (Bool×List UInt8)}{x:UInt8}(h:qgf (b.take n.toNat)=s)(g:0≤n∧n<b.length)(ex:x=b.getD n.toNat 0)(hx:qrN s x=none):qgf b=none:=by
  have e:=qw4 h g rfl
  rw[← ex,hx] at e
  unfold qgf at e ⊢
  rw[← List.take_append_drop (n+1).toNat b,List.foldl_append,e]
  exact quf _
theorem stf_a {b z z9 z11:List UInt8}{n m k:Int}{x:UInt8}(h:z=stf (b.take n.toNat))(g:0≤n∧n<b.length)(ex:x=b.getD n.toNat 0)(c:(x.toNat:Int)=125∨(x.toNat:Int)=126)(e9:z9=List.take z.length z++[UInt8.ofNat (125:Int).toNat])(ek:k=(x.toNat:Int)-32)(e11:z11=List.take (z.length+1) z9++[UInt8.ofNat k.toNat])(em:m=n+1):z11=stf (b.take m.toNat):=by
  rw[q5L 0 g em,qw2,← h,← ex,qw3]
  have q:x=125∨x=126:=c.imp (qzJ 125 · (by decide)) (qzJ 126 · (by decide))
  rw[if_pos q,e11,e9,List.take_length,List.take_of_length_le (by simp),List.append_assoc]
  rcases q with rfl|rfl
  · have:k=93:=ek
    subst this;rfl
  · have:k=94:=ek
    subst this;rfl
theorem stf_b {b z z7:List UInt8}{n m:Int}{x:UInt8}(h:z=stf (b.take n.toNat))(g:0≤n∧n<b.length)(ex:x=b.getD n.toNat 0)(c:¬ ((x.toNat:Int)=125∨(x.toNat:Int)=126))(e7:z7=List.take z.length z++[UInt8.ofNat (x.toNat:Int).toNat])(em:m=n+1):z7=stf (b.take m.toNat):=by
  rw[q5L 0 g em,qw2,← h,← ex,qw3,if_neg (fun q=>c (by rcases q with rfl|rfl;exact .inl rfl;exact .inr rfl)),e7,List.take_length,Int.toNat_natCast,UInt8.ofNat_toNat]
theorem bad_1 {x:UInt8}{s:Bool}{o:List UInt8}(c:(s=true∧(x.toNat:Int)≠93)∧(x.toNat:Int)≠94):qrN (some (s,o)) x=none:=by
  rw[qnV,if_pos (.inl ⟨c.1.1,fun e=>c.1.2 (by rw[e];rfl),fun e=>c.2 (by rw[e];rfl)⟩)]
theorem bad_2 {x:UInt8}{s:Bool}{o:List UInt8}(c:(x.toNat:Int)=126):qrN (some (s,o)) x=none:=by
  rw[qnV,if_pos (.inr (qzJ 126 c (by decide)))]
theorem bf_sgn {b z z':List UInt8}{n m k:Int}{s:Bool}{x:UInt8}(h:qgf (b.take n.toNat)=some (s,z))(g:0≤n∧n<b.length)(ex:x=b.getD n.toNat 0)(hs:s=true)(c:¬ ((s=true∧(x.toNat:Int)≠93)∧(x.toNat:Int)≠94))(ek:k=wb ((x.toNat:Int)+32))(ez:z'=List.take z.length z++[UInt8.ofNat k.toNat])(em:m=n+1):qgf (b.take m.toNat)=some (false,z'):=by
  have q:x=93∨x=94:=by
    by_cases e:(x.toNat:Int)=93
    · exact .inl (qzJ 93 e (by decide))
    · exact .inr (qzJ 94 (Classical.not_not.1 fun f=>c ⟨⟨hs,e⟩,f⟩) (by decide))
  rw[qw4 h g em,← ex,ez,List.take_length,hs]
  rcases q with rfl|rfl
  · have:k=125:=ek
    subst this;rfl
  · have:k=126:=ek
    subst this;rfl
theorem bf_125 {b z:List UInt8}{n m:Int}{s:Bool}{x:UInt8}(h:qgf (b.take n.toNat)=some (s,z))(g:0≤n∧n<b.length)(ex:x=b.getD n.toNat 0)(hs:¬ s=true)(c:(x.toNat:Int)=125)(em:m=n+1):qgf (b.take m.toNat)=some (true,z):=by
  have q:=qzJ 125 c (by decide)
  rw[qw4 h g em,← ex,q,eq_false_of_ne_true hs];rfl
theorem bf_oth {b z z':List UInt8}{n m:Int}{s:Bool}{x:UInt8}(h:qgf (b.take n.toNat)=some (s,z))(g:0≤n∧n<b.length)(ex:x=b.getD n.toNat 0)(hs:¬ s=true)(c:¬ (x.toNat:Int)=126)(d:¬ (x.toNat:Int)=125)(ez:z'=List.take z.length z++[UInt8.ofNat (x.toNat:Int).toNat])(em:m=n+1):qgf (b.take m.toNat)=some (s,z'):=by
  rw[qw4 h g em,← ex,eq_false_of_ne_true hs,qnV,if_neg (fun q=>by rcases q with q|q;exact absurd q.1 (by decide);exact c (by rw[q];rfl)),if_neg (by decide),if_neg (fun q=>d (by rw[q];rfl)),ez,List.take_length,Int.toNat_natCast,UInt8.ofNat_toNat]
noncomputable def pcL (u:List UInt8):List Msg:=match qc7 u with
  |some (true,k,n,b)=>[⟨UInt8.ofNat k.toNat,UInt32.ofNat n.toNat,b⟩]
  |_=>[]
abbrev Rd:=Bool×Bool×List UInt8
def rst (s:Rd)(x:UInt8):Rd:=if x=126 then (true,false,[]) else if 1043≤s.2.2.length then (s.1,true,s.2.2) else if s.1=true then (s.1,s.2.1,s.2.2++[x]) else s
noncomputable def emit (s:Rd)(x:UInt8):List Msg:=if x=126∧s.1=true∧s.2.1=false then pcL s.2.2 else []
def qkt (s:Rd)(b:List UInt8):Rd:=b.foldl rst s
noncomputable def msgs:Rd→List UInt8→List Msg
  |_,[]=>[]
  |s,x::b=>emit s x++msgs (rst s x) b
theorem qku (s:Rd)(a b:List UInt8):qkt s (a++b)=qkt (qkt s a) b:=by unfold qkt;rw[List.foldl_append]
theorem qkv:∀ (s:Rd) (a b:List UInt8),msgs s (a++b)=msgs s a++msgs (qkt s a) b
  |s,[],b=>rfl
  |s,x::a,b=>by
    rw[List.cons_append,msgs,msgs,qkv (rst s x) a b,List.append_assoc];rfl
theorem mid {k:UInt8}{q b w:List UInt8}(lq:q.length=4)(lw:w.length=4):((k::(q++b++w)).take ((k::(q++b++w)).length-4)).drop 5=b:=by
  have e:(k::(q++b++w)).length-4=(k::(q++b)).length:=by simp only[List.length_cons,List.length_append];omega
  rw[e,show k::(q++b++w)=(k::(q++b))++w from rfl,List.take_left]
  show (q++b).drop 4=b
  rw[← lq,List.drop_left]
theorem rs_end {s:Rd}{x:UInt8}{z:List UInt8}(c:(x.toNat:Int)=126):((true,false,List.take (Int.toNat 0) z):Rd)=rst s x:=by
  unfold rst
  rw[if_pos (show x=126 from qzJ 126 c (by decide))];rfl
theorem rs_long {x:UInt8}{z:List UInt8}{b5 b6:Bool}{k:Nat}(c:¬ (x.toNat:Int)=126)(h:(k:Int)≥1043)(g:k≤z.length):((b5,true,List.take k z):Rd)=rst (b5,b6,List.take k z) x:=by
  unfold rst
  rw[if_neg (fun e=>c (by rw[e];rfl)),if_pos (by dsimp only;rw[List.length_take];omega)]
theorem rs_more {x:UInt8}{z z':List UInt8}{b5 b6:Bool}{k:Nat}(c:¬ (x.toNat:Int)=126)(h:¬ (k:Int)≥1043)(g:k≤z.length)(hb:b5=true)(ez:z'=List.take k z++[UInt8.ofNat (x.toNat:Int).toNat]):((b5,b6,List.take (k+1) z'):Rd)=rst (b5,b6,List.take k z) x:=by
  unfold rst
  rw[if_neg (fun e=>c (by rw[e];rfl)),if_neg (by dsimp only;rw[List.length_take];omega),if_pos hb,ez,Int.toNat_natCast,UInt8.ofNat_toNat,List.take_of_length_le (by simp;omega)]
theorem rs_none {x:UInt8}{z:List UInt8}{b5 b6:Bool}{k:Nat}(c:¬ (x.toNat:Int)=126)(h:¬ (k:Int)≥1043)(g:k≤z.length)(hb:¬ b5=true):((b5,b6,List.take k z):Rd)=rst (b5,b6,List.take k z) x:=by
  unfold rst
  rw[if_neg (fun e=>c (by rw[e];rfl)),if_neg (by dsimp only;rw[List.length_take];omega),if_neg hb]
theorem em_yes {x:UInt8} {u v:List UInt8} {b b5 b6:Bool} {k n:Int} {z z':List Msg} (c:(x.toNat:Int)=126) (e:qc7 u=some (b,k,n,v)) (c5:(b=true∧b5=true)∧¬ b6=true) (ez:z'=List.take z.length z++[{kind:=UInt8.ofNat k.toNat,seq:=UInt32.ofNat n.toNat,body:=List.take v.length v:Msg}]):z'=z++emit (b5,b6,u) x:=by
  unfold emit pcL
  rw[if_pos ⟨qzJ 126 c (by decide),c5.1.2,eq_false_of_ne_true c5.2⟩,e,c5.1.1,ez,List.take_length,List.take_length]
theorem em_no {x:UInt8}{u v:List UInt8}{b b5 b6:Bool}{k n:Int}{z:List Msg}(e:qc7 u=some (b,k,n,v))(c5:¬ ((b=true∧b5=true)∧¬ b6=true)):z=z++emit (b5,b6,u) x:=by
  unfold emit
  split
  · rename_i h
    unfold pcL
    rw[e]
    cases b
    · simp
    · exact absurd ⟨⟨rfl,h.2.1⟩,fun q=>by have:=h.2.2;dsimp only at this;rw[q] at this;cases this⟩ c5
  · simp
theorem q8b {x:UInt8}{s:Rd}{z:List Msg}(c:¬ (x.toNat:Int)=126):z=z++emit s x:=by
  unfold emit
  rw[if_neg (fun h=>c (by rw[h.1];rfl)),List.append_nil]
def At (s0:Rd)(b:List UInt8)(n:Int)(s:Rd)(o:List Msg):Prop:=s=qkt s0 (b.take n.toNat)∧o=msgs s0 (b.take n.toNat)
theorem At.go {s0 s s':Rd}{b:List UInt8}{n m:Int}{o o':List Msg}{x:UInt8}(h:At s0 b n s o)(g:0≤n∧n<b.length)(ex:x=b.getD n.toNat 0)(em:m=n+1)(e1:s'=rst s x)(e2:o'=o++emit s x):At s0 b m s' o':=by
  obtain⟨h1,h2⟩:=h
  unfold At
  rw[q5L 0 g em,qku,qkv,← h1,← h2,← ex,e1,e2]
  exact⟨rfl,by show _=o++(emit s x++[]);rw[List.append_nil]⟩
theorem q4w {b:List UInt8}(p0:b.length≤1000000):W (q3r b) (fun r=>0≤r∧r<4294967296):=by
 unfold q3r q0T
 refine qaj (fun v=>∃ n3 n6,v=(((UInt32.ofNat (Int.toNat (0:Int))::UInt32.ofNat (Int.toNat (498536548:Int))::UInt32.ofNat (Int.toNat (997073096:Int))::UInt32.ofNat (Int.toNat (651767980:Int))::UInt32.ofNat (Int.toNat (1994146192:Int))::UInt32.ofNat (Int.toNat (1802195444:Int))::UInt32.ofNat (Int.toNat (1303535960:Int))::UInt32.ofNat (Int.toNat (1342533948:Int))::UInt32.ofNat (Int.toNat (3988292384:Int))::UInt32.ofNat (Int.toNat (4027552580:Int))::UInt32.ofNat (Int.toNat (3604390888:Int))::UInt32.ofNat (Int.toNat (3412177804:Int))::UInt32.ofNat (Int.toNat (2607071920:Int))::UInt32.ofNat (Int.toNat (2262029012:Int))::UInt32.ofNat (Int.toNat (2685067896:Int))::UInt32.ofNat (Int.toNat (3183342108:Int))::nilL2),()),(),n3,b,(b.length:Int),n6,())∧(0≤n6∧n6≤(b.length:Int))) (fun((_,_),_,n3,_,_,n6,_)=>((b.length:Int)-n6).toNat) ⟨_,_,rfl,by omega⟩ (by simp only[NN];omega) ?_
 rintro r1 _ ⟨n3,n6,rfl,hr1_0⟩ ihr1
 refine W_if (fun c1=>?_) fun c1=>?_
 ·refine W_ix (by omega) fun x8 hx8=>?_
  refine qac fun n9 hn9=>?_
  refine qac fun n10 hn10=>?_
  refine qac fun n11 hn11=>?_
  refine qac fun n12 hn12=>?_
  have g12:=and_15 n11
  rw[← hn12] at g12
  refine qaf (by (first|omega|(simp;omega)|(show n12.toNat<16;omega)|(show n19.toNat<16;omega))) ?_
  refine qaf (by (first|omega|(simp;omega)|(show n12.toNat<16;omega)|(show n19.toNat<16;omega))) ?_
  refine qaf (by (first|omega|(simp;omega)|(show n12.toNat<16;omega)|(show n19.toNat<16;omega))) ?_
  refine qac fun n13 hn13=>?_
  refine qac fun n14 hn14=>?_
  refine qac fun n15 hn15=>?_
  refine qac fun n16 hn16=>?_
  refine qac fun n17 hn17=>?_
  refine qac fun n18 hn18=>?_
  refine qac fun n19 hn19=>?_
  have g19:=and_15 n18
  rw[← hn19] at g19
  refine qaf (by (first|omega|(simp;omega)|(show n12.toNat<16;omega)|(show n19.toNat<16;omega))) ?_
  refine qaf (by (first|omega|(simp;omega)|(show n12.toNat<16;omega)|(show n19.toNat<16;omega))) ?_
  refine qaf (by (first|omega|(simp;omega)|(show n12.toNat<16;omega)|(show n19.toNat<16;omega))) ?_
  refine qac fun n20 hn20=>?_
  refine qac fun n21 hn21=>?_
  refine qah (by omega) fun n22 hn22=>?_
  exact ihr1.use _ ⟨_,_,rfl,by omega⟩ (by dsimp only;omega)
 ·refine qac fun n7 hn7=>?_
  refine qaa ?_
  rw[hn7];exact q0h ..
theorem qzL {b:List UInt8}(p0:b.length≤1000000):W (qkM b) (fun r=>r=stf b):=by
 unfold qkM qic
 refine qaf (by omega) ?_
 refine qaj (fun v=>∃ z2 n5,v=((z2,()),(),b,(b.length:Int),n5,())∧(0≤n5∧n5≤(b.length:Int))∧(z2=stf (b.take n5.toNat))) (fun((z2,_),_,_,_,n5,_)=>((b.length:Int)-n5).toNat) ⟨_,_,rfl,by omega,rfl⟩ (by simp only[NN];omega) ?_
 rintro r1 _ ⟨z2,n5,rfl,hr1_0,hr1_1⟩ ihr1
 have ls:=qqU (b.take n5.toNat)
 rw[← hr1_1,List.length_take] at ls
 refine W_if (fun c2=>?_) fun c2=>?_
 ·refine W_ix (by omega) fun x6 hx6=>?_
  refine W_if (fun c3=>?_) fun c3=>?_
  ·refine W_rm (by omega) ?_
   refine qac fun z9 hz9=>?_
   have lz9:=congrArg List.length hz9;try simp at lz9
   refine W_wb (by omega) fun n10 hn10=>?_
   refine qaf (by omega) ?_
   refine qac fun z11 hz11=>?_
   have lz11:=congrArg List.length hz11;try simp at lz11
   refine qah (by omega) fun n12 hn12=>?_
   refine W_rs (by omega) ?_
   exact ihr1.use _ ⟨_,_,rfl,by omega,stf_a hr1_1 (by omega) hx6 c3 hz9 hn10 hz11 hn12⟩ (by dsimp only;omega)
  ·refine W_rm (by omega) ?_
   refine qac fun z7 hz7=>?_
   have lz7:=congrArg List.length hz7;try simp at lz7
   refine qah (by omega) fun n8 hn8=>?_
   refine W_rs (by omega) ?_
   exact ihr1.use _ ⟨_,_,rfl,by omega,stf_b hr1_1 (by omega) hx6 c3 hz7 hn8⟩ (by dsimp only;omega)
 ·refine W_rs rfl ?_
  refine qaa ?_
  rw[hr1_1,List.take_of_length_le (by omega)]
theorem q2i {b:List UInt8}(p0:b.length≤1000000):W (qoV b) (fun r=>r.1.length≤b.length∧∀ o,qgf b=some (false,o)→r=(o,0)):=by
 unfold qoV qkN
 refine qaf (by omega) ?_
 refine qaj (fun v=>∃ z2 b3 n6,v=((z2,()),(),b3,b,(b.length:Int),n6,())∧(0≤n6∧n6≤(b.length:Int))∧((z2.length:Int)≤n6)∧(qgf (b.take n6.toNat)=some (b3,z2))) (fun((z2,_),_,b3,_,_,n6,_)=>((b.length:Int)-n6).toNat) ⟨_,_,_,rfl,by omega,by simp,rfl⟩ (by simp only[NN];omega) ?_
 rintro r1 _ ⟨z2,b3,n6,rfl,hr1_0,hr1_1,hr1_2⟩ ihr1
 refine W_if (fun c2=>?_) fun c2=>?_
 ·refine W_ix (by omega) fun x7 hx7=>?_
  refine W_if (fun c3=>?_) fun c3=>?_
  ·refine W_if (fun c4=>?_) fun c4=>?_
   ·refine qaa ?_
    exact⟨by simp,fun o h=>by rw[qzK hr1_2 (by omega) hx7 (bad_1 c4)] at h;cases h⟩
   ·refine W_if (fun c5=>?_) fun c5=>?_
    ·refine qac fun n17 hn17=>?_
     refine W_rm (by omega) ?_
     refine qac fun z18 hz18=>?_
     have lz18:=congrArg List.length hz18;try simp at lz18
     refine qah (by omega) fun n19 hn19=>?_
     refine W_rs (by omega) ?_
     exact ihr1.use _ ⟨_,_,_,rfl,by omega,by omega,absurd c3 c4⟩ (by dsimp only;omega)
    ·refine W_if (fun c8=>?_) fun c8=>?_
     ·refine qah (by omega) fun n16 hn16=>?_
      refine W_rs rfl ?_
      exact ihr1.use _ ⟨_,_,_,rfl,by omega,by omega,absurd c3 c4⟩ (by dsimp only;omega)
     ·refine W_rm (by omega) ?_
      refine qac fun z14 hz14=>?_
      have lz14:=congrArg List.length hz14;try simp at lz14
      refine qah (by omega) fun n15 hn15=>?_
      refine W_rs (by omega) ?_
      exact ihr1.use _ ⟨_,_,_,rfl,by omega,by omega,absurd c3 c4⟩ (by dsimp only;omega)
  ·refine W_if (fun c12=>?_) fun c12=>?_
   ·refine qaa ?_
    exact⟨by simp,fun o h=>by rw[qzK hr1_2 (by omega) hx7 (bad_2 (by assumption))] at h;cases h⟩
   ·refine W_if (fun c13=>?_) fun c13=>?_
    ·refine qac fun n11 hn11=>?_
     refine W_rm (by omega) ?_
     refine qac fun z12 hz12=>?_
     have lz12:=congrArg List.length hz12;try simp at lz12
     refine qah (by omega) fun n13 hn13=>?_
     refine W_rs (by omega) ?_
     exact ihr1.use _ ⟨_,_,_,rfl,by omega,by omega,bf_sgn hr1_2 (by omega) hx7 c13 c3 hn11 hz12 hn13⟩ (by dsimp only;omega)
    ·refine W_if (fun c16=>?_) fun c16=>?_
     ·refine qah (by omega) fun n10 hn10=>?_
      refine W_rs rfl ?_
      exact ihr1.use _ ⟨_,_,_,rfl,by omega,by omega,bf_125 hr1_2 (by omega) hx7 c13 c16 hn10⟩ (by dsimp only;omega)
     ·refine W_rm (by omega) ?_
      refine qac fun z8 hz8=>?_
      have lz8:=congrArg List.length hz8;try simp at lz8
      refine qah (by omega) fun n9 hn9=>?_
      refine W_rs (by omega) ?_
      exact ihr1.use _ ⟨_,_,_,rfl,by omega,by omega,bf_oth hr1_2 (by omega) hx7 c13 c12 c16 hz8 hn9⟩ (by dsimp only;omega)
 ·refine W_if (fun c20=>?_) fun c20=>?_
  ·refine qaa ?_
   rw[show n6.toNat=b.length by omega,List.take_length] at hr1_2
   exact⟨by simp,fun o h=>by rw[hr1_2] at h;simp only[Option.some.injEq,Prod.mk.injEq] at h;exact absurd c20 (by rw[h.1];decide)⟩
  ·refine W_rs rfl ?_
   refine qaa ?_
   rw[show n6.toNat=b.length by omega,List.take_length] at hr1_2
   exact⟨by dsimp only;omega,fun o h=>by rw[hr1_2] at h;simp only[Option.some.injEq,Prod.mk.injEq] at h;rw[h.2]⟩
theorem q2j {b:List UInt8}(p0:b.length≤1000000):W (qpF b) (fun r=>r.2.2.2.length≤512∧(r.1=0→9≤b.length∧r.2.1=((b.getD 0 0).toNat:Int)∧r.2.2.2=(b.take (b.length-4)).drop 5)):=by
 unfold qpF qlm
 refine W_wi (by omega) fun n1 hn1=>?_
 refine W_if (fun c1=>?_) fun c1=>?_
 ·refine qaa ?_
  exact⟨by simp,fun h=>by simp at h⟩
 ·refine qaf (by omega) ?_
  refine qab (qwy) ?_
  rintro⟨n2,n3⟩ hn2
  dsimp only at hn2
  refine qaf (by omega) ?_
  refine qaf (by omega) ?_
  refine qab (qwy) ?_
  rintro⟨n4,n5⟩ hn4
  dsimp only at hn4
  refine qaf (by omega) ?_
  refine qaf (by omega) ?_
  refine qab (q4w (by simp;omega)) ?_
  rintro n6 hn6
  refine qac fun n7 hn7=>?_
  refine W_if (fun c7=>?_) fun c7=>?_
  ·refine qaa ?_
   exact⟨by simp,fun h=>by simp at h⟩
  ·refine qaf (by omega) ?_
   refine qac fun x8 hx8=>?_
   refine qac fun n9 hn9=>?_
   refine qaf (by omega) ?_
   refine qaf (by omega) ?_
   refine qab (qd8 (by simp;omega)) ?_
   rintro z10 hz10
   refine W_rs rfl ?_
   refine qaa ?_
   exact⟨by rw[hz10];simp;omega,fun _=>⟨by omega,by dsimp only;rw[hx8];rfl,by dsimp only;rw[hz10,show n1.toNat=b.length-4 by omega];rfl⟩⟩
theorem qmO {b:List UInt8}(p0:b.length≤1000000):W (qc7 b) (fun r=>r.2.2.2.length≤512∧(r.1=true→9≤b.length)∧∀ o,qgf b=some (false,o)→r.1=true→r.2.1=((o.getD 0 0).toNat:Int)∧r.2.2.2=(o.take (o.length-4)).drop 5):=by
 unfold qc7 qix
 refine qab (q2i (by omega)) ?_
 rintro⟨z1,n2⟩ hz1
 dsimp only at hz1
 refine W_if (fun c1=>?_) fun c1=>?_
 ·refine qaa ?_
  exact⟨by simp,fun h=>by simp at h,fun _ _ h=>by simp at h⟩
 ·refine qab (q2j (by rw[List.take_length];omega)) ?_
  rintro⟨n3,n4,n5,z6⟩ hn3
  dsimp only at hn3
  rw[List.take_length] at hn3
  refine W_rs rfl ?_
  refine qaa ?_
  refine⟨hn3.1,fun h=>?_,fun o h g=>?_⟩
  · have:=(hn3.2 (by simpa using h)).1;omega
  · have e:=hz1.2 o h
    simp only[Prod.mk.injEq] at e
    rw[← e.1]
    exact(hn3.2 (by simpa using g)).2
theorem qfs {s:List UInt8}{c:Int}(p0:s.length≤1000000):W (qbf s c) (fun r=>(-1≤r∧r<s.length)∧(((s.getD (s.length-1) 0).toNat:Int)=c→r=s.length-1)):=by
 unfold qbf qba
 refine W_wi (by omega) fun n1 hn1=>?_
 refine qaj (fun v=>∃ n5,v=((),(),s,c,n5,())∧(-1≤n5∧n5<s.length)∧(((s.getD (s.length-1) 0).toNat:Int)=c→n5=s.length-1)) (fun(_,_,_,_,n5,_)=>(n5+1).toNat) ⟨_,rfl,by omega,fun _=>by omega⟩ (by simp only[NN];omega) ?_
 rintro r2 _ ⟨n5,rfl,hr2_0,hr2_1⟩ ihr2
 refine W_if (fun c1=>?_) fun c1=>?_
 ·refine W_ix (by omega) fun x6 hx6=>?_
  refine W_if (fun c2=>?_) fun c2=>?_
  ·refine qaa ?_
   exact⟨by omega,hr2_1⟩
  ·refine W_wi (by omega) fun n7 hn7=>?_
   exact ihr2.use _ ⟨_,rfl,by omega,fun h=>absurd (by rw[hx6,show n5.toNat=s.length-1 by have:=hr2_1 h;omega];exact h) c2⟩ (by dsimp only;omega)
 ·refine qaa ?_
  exact⟨by omega,fun h=>by have:=hr2_1 h;omega⟩
theorem qh7 {s:List UInt8}{c:Int}(p0:s.length≤1000000):W (qbF s c) (fun r=>(-1≤r∧r<s.length)∧(((s.getD (s.length-1) 0).toNat:Int)=c→r=s.length-1)):=by
 unfold qbF qbq
 refine qab (qfs (by omega)) ?_
 rintro n1 hn1
 refine qaa ?_
 first|omega|simp|trivial
theorem q59:W (qvq ) (fun r=>r=(false,false,true)):=by
 unfold qvq qoW
 refine qaa ?_
 rfl
theorem qzM {r:Bool}{r2:Bool}{r3:Bool}{b:List UInt8}(p0:b.length≤1000000):W (ql4 r r2 r3 b) (fun q=>(∀ m∈q.1,m.body.length≤512)∧(q.1.length:Int)≤b.length∧(b.length≤16384→r3=true→q=(msgs (r,r2,[]) b,0)∧10*q.1.length≤b.length)):=by
 unfold ql4 qi0
 refine W_if (fun c1=>?_) fun c1=>?_
 ·refine qaa ?_
  exact⟨by simp,by simp,fun _ h=>absurd h c1⟩
 ·refine W_if (fun c2=>?_) fun c2=>?_
  ·refine qaa ?_
   exact⟨by simp,by simp,fun h=>by omega⟩
  ·refine qaj (fun v=>∃ z2 z3 x4 b5 b6 n10,v=((z2,z3,()),((x4,b5,b6,r3,()),()),b,(b.length:Int),n10,())∧(0≤n10∧n10≤(b.length:Int))∧((z3.length:Int)≤n10)∧(x4≤2000)∧((∀ m∈z3,m.body.length≤512))∧(x4≤z2.length)∧(10*z3.length+x4≤n10)∧(At (r,r2,[]) b n10 (b5,b6,List.take x4 z2) z3)) (fun((z2,z3,_),((x4,b5,b6,_,_),_),_,_,n10,_)=>((b.length:Int)-n10).toNat) ⟨_,_,_,_,_,_,rfl,by omega,by simp,by omega,by simp,by simp,by simp,⟨rfl,rfl⟩⟩ (by simp only[NN];omega) ?_
   rintro r1 _ ⟨z2,z3,x4,b5,b6,n10,rfl,hr1_0,hr1_1,hr1_2,hr1_3,hr1_4,hr1_5,hr1_6⟩ ihr1
   refine W_if (fun c3=>?_) fun c3=>?_
   ·refine W_ix (by omega) fun x11 hx11=>?_
    refine W_if (fun c4=>?_) fun c4=>?_
    ·refine qab (qna (qmO (by rw[List.length_take];omega))) ?_
     rintro⟨b16,n17,n18,z19⟩ hb16
     dsimp only at hb16
     obtain⟨hb16,eb16⟩:=hb16
     rw[List.length_take] at hb16
     refine W_if (fun c5=>?_) fun c5=>?_
     ·refine W_rm (by omega) ?_
      refine qac fun z21 hz21=>?_
      have lz21:=congrArg List.length hz21;try simp at lz21
      refine qah (by omega) fun n22 hn22=>?_
      refine W_rs (by omega) ?_
      exact ihr1.use _ ⟨_,_,_,_,_,_,rfl,by omega,by omega,by omega,qdH hr1_3 hz21 (by dsimp only;rw[List.take_length];exact hb16.1),by simp,by have:=hb16.2.1 c5.1.1;omega,hr1_6.go (by omega) hx11 hn22 (rs_end c4) (em_yes c4 eb16 c5 hz21)⟩ (by dsimp only;omega)
     ·refine qah (by omega) fun n20 hn20=>?_
      refine W_rs rfl ?_
      exact ihr1.use _ ⟨_,_,_,_,_,_,rfl,by omega,by omega,by omega,hr1_3,by simp,by simp;omega,hr1_6.go (by omega) hx11 hn20 (rs_end c4) (em_no eb16 c5)⟩ (by dsimp only;omega)
    ·refine W_if (fun c9=>?_) fun c9=>?_
     ·refine qah (by omega) fun n15 hn15=>?_
      refine W_rs rfl ?_
      exact ihr1.use _ ⟨_,_,_,_,_,_,rfl,by omega,by omega,by omega,hr1_3,hr1_4,by omega,hr1_6.go (by omega) hx11 hn15 (rs_long c4 c9 hr1_4) (q8b c4)⟩ (by dsimp only;omega)
     ·refine W_if (fun c11=>?_) fun c11=>?_
      ·refine qaf (by omega) ?_
       refine qac fun z13 hz13=>?_
       have lz13:=congrArg List.length hz13;try simp at lz13
       refine qah (by omega) fun n14 hn14=>?_
       refine W_rs rfl ?_
       exact ihr1.use _ ⟨_,_,_,_,_,_,rfl,by omega,by omega,by omega,hr1_3,by rw[hz13];simp;omega,by omega,hr1_6.go (by omega) hx11 hn14 (rs_more c4 c9 hr1_4 c11 hz13) (q8b c4)⟩ (by dsimp only;omega)
      ·refine qah (by omega) fun n12 hn12=>?_
       refine W_rs rfl ?_
       exact ihr1.use _ ⟨_,_,_,_,_,_,rfl,by omega,by omega,by omega,hr1_3,hr1_4,by omega,hr1_6.go (by omega) hx11 hn12 (rs_none c4 c9 hr1_4 c11) (q8b c4)⟩ (by dsimp only;omega)
   ·refine qaa ?_
    have e:=hr1_6.2
    rw[show n10.toNat=b.length by omega,List.take_length] at e
    rw[List.take_length]
    exact⟨hr1_3,by dsimp only;omega,fun _ _=>⟨by rw[← e],by dsimp only;omega⟩⟩
theorem qqV {b:List UInt8}(p0:b.length≤1000000):W (qjR b) (fun r=>(∀ m∈r.1,m.body.length≤512)∧(r.1.length:Int)≤b.length∧(-1≤r.2.1∧r.2.1≤b.length)∧(b.length≤16384→r.1=msgs (false,false,[]) b∧10*r.1.length≤b.length∧(b.getD (b.length-1) 0=126→r.2.1=b.length-1))):=by
 unfold qjR qlB
 refine W_if (fun c1=>?_) fun c1=>?_
 ·refine qaa ?_
  exact⟨by simp,by simp,by dsimp only;omega,fun h=>by omega⟩
 ·refine qab (q59) ?_
  rintro⟨b1,b2,b3⟩ hb1
  simp only[Prod.mk.injEq] at hb1
  obtain⟨rfl,rfl,rfl⟩:=hb1
  refine qab (qzM (by omega)) ?_
  rintro⟨z4,n5⟩ hz4
  dsimp only at hz4
  refine qab (qh7 (by omega)) ?_
  rintro n6 hn6
  refine qaa ?_
  exact⟨hz4.1,hz4.2.1,by dsimp only;omega,fun h=>⟨by have e:=(hz4.2.2 h rfl).1;simp only[Prod.mk.injEq] at e;exact e.1,(hz4.2.2 h rfl).2,fun g=>hn6.2 (by rw[g];rfl)⟩⟩
theorem qw5 {m:Msg}(p0:m.body.length≤140737488355328):W (qin m) (fun r=>r.1.length≤600∧(r.2=0→m.body.length≤512∧∃ q z,q.length=4∧z.length=4∧r.1=m.kind::(q++m.body++z))):=by
 unfold qin qbz
 have u:=qdd m.seq
 refine W_if (fun c1=>?_) fun c1=>?_
 ·refine qaa ?_
  exact⟨by simp,fun h=>by simp at h⟩
 ·refine W_wu (by omega) fun n1 hn1=>?_
  refine qab (qwz (by omega) (by omega)) ?_
  rintro⟨z2,n3⟩ hz2
  dsimp only at hz2
  have e2:=hz2.2.2.2 rfl (by omega)
  have e3:=hz2.2.1 e2
  refine qa3 (fun((z17,_),_,_)=>(z17.length≤530∧z17=m.kind::(z2++m.body))) (fun J4 hJ4=>?_) ?_
  ·refine W_sm ?_
   refine qaf (by omega) ?_
   refine qac fun z5 hz5=>?_
   have lz5:=congrArg List.length hz5;try simp at lz5
   rw[ap0,List.take_length] at hz5
   have l5:=congrArg List.length hz5;rw[List.length_cons] at l5
   refine qaf (by omega) ?_
   refine qac fun z6 hz6=>?_
   have lz6:=congrArg List.length hz6;try simp at lz6
   have l6:=congrArg List.length hz6;rw[List.length_append,List.length_take] at l6
   refine W_rs (by omega) ?_
   exact hJ4.use _ (by dsimp only;exact⟨by omega,by rw[hz6,hz5,List.take_of_length_le (by simp;omega),Int.toNat_natCast,UInt8.ofNat_toNat];rfl⟩)
  ·rintro⟨⟨z17,_⟩,_,_⟩ kJ4;dsimp only at kJ4
   refine qab (q4w (by simp;omega)) ?_
   rintro n18 hn18
   refine W_wu (by omega) fun n19 hn19=>?_
   refine qab (qwz (by omega) (by omega)) ?_
   rintro⟨z20,n21⟩ hz20
   dsimp only at hz20
   have e20:=hz20.2.2.2 rfl (by omega)
   have e21:=hz20.2.1 e20
   refine W_rm (by omega) ?_
   refine qac fun z22 hz22=>?_
   have lz22:=congrArg List.length hz22;try simp at lz22
   refine W_rs (by omega) ?_
   refine qaa ?_
   exact⟨by dsimp only;omega,fun _=>⟨by omega,z2,z20,by omega,by omega,by dsimp only;rw[hz22,List.take_length,List.take_length,kJ4.2];rfl⟩⟩
theorem qmP {m:Msg}(p0:m.body.length≤140737488355328):W (qgU m) (fun r=>r.1.length≤1300∧(r.2=0→m.body.length≤512∧(∃ c,9≤c.length∧c.length≤521∧c.getD 0 0=m.kind∧(c.take (c.length-4)).drop 5=m.body∧r.1=126::(stf c++[126])))):=by
 unfold qgU qiw
 refine qab (qw5 (by omega)) ?_
 rintro⟨z1,n2⟩ hz1
 dsimp only at hz1
 refine W_if (fun c1=>?_) fun c1=>?_
 ·refine qaa ?_
  exact⟨by simp,fun h=>absurd h c1⟩
 ·refine qab (qzL (by rw[List.take_length];omega)) ?_
  rintro z3 hz3
  rw[List.take_length] at hz3
  have ls:=qqU z1
  rw[← hz3] at ls
  refine qaf (by omega) ?_
  refine qac fun z4 hz4=>?_
  rw[ap0,List.take_length] at hz4
  have l4:=congrArg List.length hz4;rw[List.length_cons] at l4
  refine qaf (by omega) ?_
  refine qac fun z5 hz5=>?_
  have l5:=congrArg List.length hz5;rw[List.length_append,List.length_take,List.length_singleton] at l5
  refine W_rs (by omega) ?_
  refine qaa ?_
  obtain⟨hb,q,w,lq,lw,e⟩:=hz1.2 (Classical.not_not.1 c1)
  rw[Int.toNat_natCast,UInt8.ofNat_toNat] at e
  have le:=congrArg List.length e
  simp only[List.length_cons,List.length_append] at le
  refine⟨by dsimp only;omega,fun _=>⟨hb,z1,by omega,by omega,by rw[e];rfl,by rw[e];exact mid lq lw,?_⟩⟩
  dsimp only;rw[hz5,hz4,List.take_of_length_le (by simp;omega),hz3];rfl
end Go.Proofs.YtcdppfnjidlknaaGreatDoor
namespace Go.Proofs.YtcdppfnjidlknaaGreatDoor
open Go Go.Eng Go.Proofs Go.Wp
set_option maxRecDepth 20000
theorem rep16:(List.range 17).all (fun k=>decide (qeL [UInt8.ofNat 4] (k:Int)=some (List.replicate k (UInt8.ofNat 4))))=true:=by kernel_rfl
theorem rep_w {n:Int}(h:0≤n∧n≤16):qeL [UInt8.ofNat 4] n=some (List.replicate n.toNat (UInt8.ofNat 4)):=by
  have:=List.all_eq_true.1 rep16 n.toNat (List.mem_range.2 (by omega))
  rw[decide_eq_true_eq,Int.toNat_of_nonneg h.1] at this
  exact this
theorem rep4 {n k:Nat}(h:k<n):La (List.replicate n (UInt8.ofNat 4)) k=4:=by
  unfold La
  rw[List.getD_eq_getElem?_getD,List.getElem?_replicate,if_pos h];rfl
noncomputable def cfs (t:SiteT)(a:Bool×Int×Int×List Int)(m:Msg):Bool×Int×Int×List Int:=if qcX t m=some true then (match qa6 m.body with
  |some c=>(match qdb t {cycle:=c.2.2.1,offset:=c.2.2.2.1,splits:=c.2.2.2.2} with
    |some p=>(true,p.2.cycle,p.2.offset,p.2.splits)
    |none=>a)
  |none=>a) else a
noncomputable abbrev cfo (t:SiteT) (a:Bool×Int×Int×List Int) (l:List Msg):Bool×Int×Int×List Int:=l.foldl (cfs t) a
theorem cmd_eq {t:SiteT}{x:Msg}{n1 n2 n3 n4:Int}{z:List Int}(e:qa6 x.body=some (n1,n2,n3,n4,z)):qcX t x=some true↔((x.kind.toNat:Int)=2∧n1=0)∧n2=t.id:=by
  have:qcX t x=some (bif bif (x.kind.toNat:Int)==(2:Int) then n1==(0:Int) else false then n2==t.id else false):=by
    unfold qcX qfS
    rw[e];rfl
  rw[this,Option.some.injEq]
  exact BP.iff
theorem cf_yes {t:SiteT} {x:Msg} {a:Bool×Int×Int×List Int} {n1 n2 n3 n4 k:Int} {z:List Int} {p:Plan} (e:qa6 x.body=some (n1,n2,n3,n4,z)) (c:((x.kind.toNat:Int)=2∧n1=0)∧n2=t.id) (ep:qdb t {cycle:=n3,offset:=n4,splits:=z}=some (k,p)):(true,p.cycle,p.offset,p.splits)=cfs t a x:=by
  unfold cfs
  rw[if_pos ((cmd_eq e).2 c),e]
  dsimp only
  rw[ep]
theorem cf_no {t:SiteT}{x:Msg}{a:Bool×Int×Int×List Int}{n1 n2 n3 n4:Int}{z:List Int}(e:qa6 x.body=some (n1,n2,n3,n4,z))(c:¬ (((x.kind.toNat:Int)=2∧n1=0)∧n2=t.id)):a=cfs t a x:=by
  unfold cfs
  rw[if_neg (fun h=>c ((cmd_eq e).1 h))]
def hall (x:LocT)(i:Inp):List UInt8:=[x.rest,List.take (min (8192:Int) (i.bytesf.length:Int)).toNat i.bytesf].flatten
def Hrd (t:SiteT)(x:LocT)(i:Inp)(b an:Bool)(la lg:Int)(re:List UInt8)(cy og:Int)(sp:List Int):Prop:=∃ sc tk n,qjR (hall x i)=some sc∧qj4 x.any x.last x.lage sc.1=some (tk,n,an,la,lg)∧re=(if 0≤sc.2.1∧((hall x i).length:Int)-sc.2.1≤2048 then (hall x i).drop sc.2.1.toNat else [])∧(b,cy,og,sp)=cfo t (false,x.cycle,x.offset,x.splits) tk
theorem q2k {t:SiteT}{t2:LocT}{t3:Inp}{t4:List Put}{t5:List Pls}{t6:List UInt8}{t7:List UInt8}{t8:List UInt8}(p0:SG t)(p1:LOk t t2):W (qeb t t2 t3 t4 t5 t6 t7 t8) (fun r=>(t,t2,t3,t5,t6,t7,t8)=(r.1,r.2.1,r.2.2.1,r.2.2.2.2)∧(t4=r.2.2.2.1∨r.2.2.2.1.length≤32∧∀ p∈r.2.2.2.1,p.data.length=64)):=by
 unfold qeb qhs
 have dk:=p1.disk
 have rg:=p1.rung
 have td:=p1.told
 refine qab (qfe (by omega)) ?_
 rintro⟨n1,n2,n3,z4⟩ hn1
 dsimp only at hn1
 refine qaf (by omega) ?_
 refine qac fun x5 hx5=>?_
 refine W_if (fun c2=>?_) fun c2=>?_
 ·refine qab (q2u (by have:=(hn1.1.2 x5 (by rw[hx5];exact qb6 (n:=0) (by omega))).1;omega)) ?_
  rintro b8 hb8
  refine W_if (fun c3=>?_) fun c3=>?_
  ·refine qaa ?_
   exact⟨rfl,.inl rfl⟩
  ·refine qab (quj (by omega) (by omega) (by simp;omega)) ?_
   rintro⟨z9,n10⟩ hz9
   dsimp only at hz9
   refine qaa ?_
   exact⟨rfl,.inr hz9⟩
 ·refine qab (quj (by omega) (by omega) (by simp;omega)) ?_
  rintro⟨z6,n7⟩ hz6
  dsimp only at hz6
  refine qaa ?_
  exact⟨rfl,.inr hz6⟩
theorem qi8 {t:SiteT}{t2:LocT}{t3:Inp}{t4:List Put}{t5:List Pls}{t6:List UInt8}{t7:List UInt8}{t8:List UInt8}(p0:SG t):W (qck t t2 t3 t4 t5 t6 t7 t8) (fun r=>(List.replicate t.groups.length (UInt8.ofNat 4),t,t2,t3,t4,t5,t6,t7,t8)=r):=by
 unfold qck qhb
 obtain⟨⟨q1,q2,q3,q4,q5,q6,q7,q8⟩,q9⟩:=p0.ok.shape
 refine qb5 (rep_w (by omega)) ?_
 refine qaa ?_
 rw[List.take_length,Int.toNat_natCast]
theorem q5A {t:TickT}(p0:SG t.site)(p1:t.loc.gaps.length=t.site.eyes.length):W (qgV t) (fun _=>True):=by
 unfold qgV qjL
 obtain⟨⟨q1,q2,q3,q4,q5,q6,q7,q8⟩,q9⟩:=p0.ok.shape
 refine qaj (fun v=>∃ n3 n6,v=((),(),t,n3,t.site.phases,(t.site.phases.length:Int),n6,())∧(0≤n6∧n6≤(t.site.phases.length:Int))) (fun(_,_,_,n3,_,_,n6,_)=>((t.site.phases.length:Int)-n6).toNat) ⟨_,_,rfl,by omega⟩ (by simp only[NN];omega) ?_
 rintro r1 _ ⟨n3,n6,rfl,hr1_0⟩ ihr1
 refine W_if (fun c1=>?_) fun c1=>?_
 ·refine W_ix (by omega) fun x7 hx7=>?_
  refine qaj (fun v=>∃ b13 n19,v=((),((x7,()),()),t,n3,n6,b13,t.site.phases,(t.site.phases.length:Int),n6,t.site.eyes,(t.site.eyes.length:Int),n19,())∧(0≤n19∧n19≤(t.site.eyes.length:Int))) (fun(_,((_,_),_),_,_,_,b13,_,_,_,_,_,n19,_)=>((t.site.eyes.length:Int)-n19).toNat) ⟨_,_,rfl,by omega⟩ (by simp only[NN];omega) ?_
  rintro r8 _ ⟨b13,n19,rfl,hr8_0⟩ ihr8
  refine W_if (fun c2=>?_) fun c2=>?_
  ·refine W_ix (by omega) fun x24 hx24=>?_
   refine W_ix (by omega) fun x25 hx25=>?_
   refine qab (q8t) ?_
   rintro⟨b26,n27⟩ hb26
   refine qah (by omega) fun n28 hn28=>?_
   exact ihr8.use _ ⟨_,_,rfl,by omega⟩ (by dsimp only;omega)
  ·refine W_if (fun c3=>?_) fun c3=>?_
   ·refine qaf (by omega) ?_
    refine qac fun n21 hn21=>?_
    refine qac fun n22 hn22=>?_
    refine qah (by omega) fun n23 hn23=>?_
    exact ihr1.use _ ⟨_,_,rfl,by omega⟩ (by dsimp only;omega)
   ·refine qah (by omega) fun n20 hn20=>?_
    exact ihr1.use _ ⟨_,_,rfl,by omega⟩ (by dsimp only;omega)
 ·refine qaa ?_
  trivial
theorem q8c {t:SiteT}{t2:LocT}{t3:Inp}{t4:List Put}{t5:List Pls}{t6:List UInt8}{t7:List UInt8}{t8:List UInt8}{k:Int}{k2:Int}{k3:List Plan}(p0:SG t)(p1:LOk t t2)(p2:t2.mode=2→0<k3.length)(p3:∀ p∈k3,p.splits.length≤8):W (qfX t t2 t3 t4 t5 t6 t7 t8 k k2 k3) (fun r=>∃ ph si asks,r=(t,{t2 with phase:=ph,since:=si},t3,t4,t5,asks,t7,t8)∧((0≤ph∧ph<t.phases.length)∧0≤si∧si≤1048576)∧asks.length=t.groups.length∧(t2.mode=0→AllF asks)∧(t2.mode≠0→FA (fun i=>La asks i=1∨La asks i=2) t.groups.length)):=by
 unfold qfX qnR
 obtain⟨⟨q1,q2,q3,q4,q5,q6,q7,q8⟩,q9⟩:=p0.ok.shape
 have td:=p1.told
 have sq:=p1.seq
 refine W_if (fun c1=>?_) fun c1=>?_
 ·refine qab (qi8 (by omega)) ?_
  rintro⟨z26,x27,x28,x29,z30,z31,z32,z33,z34⟩ hz26
  simp only[Prod.mk.injEq] at hz26;obtain⟨rfl,rfl,rfl,rfl,rfl,rfl,rfl,rfl,rfl⟩:=hz26
  refine qaa ?_
  exact⟨t2.phase,t2.since,_,rfl,sq,by simp,fun _=>fun k hk=>rep4 (by simpa using hk),fun e=>absurd c1 e⟩
 ·refine W_if (fun c2=>?_) fun c2=>?_
  ·refine qa3 (fun(_,((x18,x19,x20,z21,z22,z23,z24,z25,_),_),_)=>t=x18∧t3=x20∧t4=z21∧t5=z22∧t7=z24∧t8=z25∧(∃ ph si,x19={t2 with phase:=ph,since:=si}∧((0≤ph∧ph<t.phases.length)∧0≤si∧si≤1048576)∧z23.length=t.groups.length∧FA (fun i=>La z23 i=1∨La z23 i=2) t.groups.length)) (fun J12 hJ12=>?_) ?_
   ·refine qab (q5A p0 p1.gaps) ?_
    rintro n13 hn13
    refine qab (q8w p0 sq p1.now.1) ?_
    rintro⟨z14,n15,n16,n17⟩ hz14
    dsimp only at hz14
    exact hJ12.use _ (by dsimp only;exact⟨rfl,rfl,rfl,rfl,rfl,rfl,n16,n17,rfl,⟨hz14.2.1,hz14.2.2⟩,hz14.1.1,hz14.1.2⟩)
   ·rintro⟨_,⟨⟨x18,x19,x20,z21,z22,z23,z24,z25,_⟩,_⟩,_⟩ kJ12;dsimp only at kJ12
    obtain⟨rfl,rfl,rfl,rfl,rfl,rfl,kJ12⟩:=kJ12
    refine qaa ?_
    obtain⟨ph,si,rfl,h1,h2⟩:=kJ12
    exact⟨ph,si,_,rfl,h1,h2.1,fun e=>absurd e c1,fun _=>h2.2⟩
  ·refine W_if (fun c3=>?_) fun c3=>?_
   ·refine qaf (by omega) ?_
    refine qac fun x5 hx5=>?_
    have g5:=p3 x5 (by rw[hx5];exact qb6 (n:=0) (by have:=p2 c3;omega))
    refine qab (qiB p0 (by omega)) ?_
    rintro⟨n6,x7⟩ hn6
    dsimp only at hn6
    refine qab (qri p0 (by omega)) ?_
    rintro⟨n8,n9⟩ hn8
    dsimp only at hn8
    refine qab (qef (by omega)) ?_
    rintro⟨z10,n11⟩ hz10
    dsimp only at hz10
    refine qaa ?_
    exact⟨n8,0,_,rfl,⟨hn8,by omega⟩,(hz10 hn8).1,fun e=>absurd e c1,fun _=>(hz10 hn8).2⟩
   ·refine qab (qri p0 (by dsimp only;omega)) ?_
    rintro⟨n1,n2⟩ hn1
    dsimp only at hn1
    refine qab (qef (by omega)) ?_
    rintro⟨z3,n4⟩ hz3
    dsimp only at hz3
    refine qaa ?_
    exact⟨n1,0,_,rfl,⟨hn1,by omega⟩,(hz3 hn1).1,fun e=>absurd e c1,fun _=>(hz3 hn1).2⟩
theorem qug {t:SiteT}{t2:LocT}{t3:Inp}{t4:List Put}{t5:List Pls}{t6:List UInt8}{t7:List UInt8}{t8:List UInt8}(p0:SG t)(p1:LOk t t2)(p2:t3.bytesf.length≤1000000000):W (qbG t t2 t3 t4 t5 t6 t7 t8) (fun r=>∃ an la lg re cy og sp,r.2=(t,{t2 with any:=an,last:=la,lage:=lg,rest:=re,cycle:=cy,offset:=og,splits:=sp,age:=if r.1=true then 0 else min (t2.age+1) 1048576},t3,t4,t5,t6,t7,t8)∧re.length≤2048∧sp.length≤8∧((0≤lg∧lg≤1048576)∧(0≤la∧la<4294967296)∧(an=false→la=0))∧Hrd t t2 t3 r.1 an la lg re cy og sp):=by
 unfold qbG qqO
 obtain⟨⟨q1,q2,q3,q4,q5,q6,q7,q8⟩,q9⟩:=p0.ok.shape
 have td:=p1.told
 have rs:=p1.rest
 have lk:=p1.link
 have ag:=p1.age
 refine qac fun n1 hn1=>?_
 refine qaf (by omega) ?_
 refine qaf (by omega) ?_
 refine qab (qrQ (by simp) (by simp;omega)) ?_
 rintro z2 hz2
 have l2:=congrArg List.length hz2;simp at l2
 have ea:z2=hall t2 t3:=by rw[hz2,hn1];rfl
 refine qab (qna (qqV (by rw[List.take_length];omega))) ?_
 rintro⟨z3,n4,n5⟩ hz3
 dsimp only at hz3
 obtain⟨hz3,e3⟩:=hz3
 rw[List.take_length] at hz3 e3
 refine W_wi (by (rw[List.take_length];omega)) fun n6 hn6=>?_
 rw[List.take_length] at hn6
 refine W_if (fun c3=>?_) fun c3=>?_
 ·refine qaf (by omega) ?_
  refine qaf (by simp;omega) ?_
  refine qab (qfb (by rw[List.length_drop,List.take_length];omega)) ?_
  rintro z36 hz36
  have l36:=congrArg List.length hz36;rw[List.length_drop,List.take_length] at l36
  refine qab (qna (qlU lk (by omega))) ?_
  rintro⟨z37,n38,b39,n40,n41⟩ hz37
  dsimp only at hz37
  obtain⟨hz37,ez37⟩:=hz37
  refine qaj (fun v=>∃ x44 b51 n54,v=((),((t,x44,t3,t4,t5,t6,t7,t8,()),()),b51,z37,(z37.length:Int),n54,())∧(0≤n54∧n54≤(z37.length:Int))∧(∃ cy og sp,x44={t2 with any:=b39,last:=n40,lage:=n41,rest:=List.take z36.length z36,cycle:=cy,offset:=og,splits:=sp}∧sp.length≤8∧(b51,cy,og,sp)=cfo t (false,t2.cycle,t2.offset,t2.splits) (z37.take n54.toNat))) (fun(_,((_,x44,_,_,_,_,_,_,_),_),b51,_,_,n54,_)=>((z37.length:Int)-n54).toNat) ⟨_,_,_,rfl,by omega,⟨t2.cycle,t2.offset,t2.splits,rfl,td,rfl⟩⟩ (by simp only[NN];omega) ?_
  rintro r42 _ ⟨x44,b51,n54,rfl,hr42_0,hr42_1⟩ ihr42
  obtain⟨cy,og,sp,rfl,hs,hf⟩:=hr42_1
  refine W_if (fun c6=>?_) fun c6=>?_
  ·refine W_ix (by omega) fun x56 hx56=>?_
   have b56:=qaq (d:=dflt 8) (n:=n54) hz37.2.1 (by omega)
   rw[← hx56] at b56
   refine qab (qna (qgi (by omega))) ?_
   rintro⟨n57,n58,n59,n60,z61⟩ hn57
   dsimp only at hn57
   obtain⟨hn57,e57⟩:=hn57
   refine W_if (fun c7=>?_) fun c7=>?_
   ·refine qab (qna (qiB p0 (by dsimp only;omega))) ?_
    rintro⟨n63,x64⟩ hn63
    dsimp only at hn63
    obtain⟨hn63,e63⟩:=hn63
    refine qah (by omega) fun n65 hn65=>?_
    exact ihr42.use _ ⟨_,_,_,rfl,by omega,⟨x64.cycle,x64.offset,x64.splits,rfl,by omega,(cf_yes e57 c7 e63).trans (qut hf (by omega) hx56 hn65)⟩⟩ (by dsimp only;omega)
   ·refine qah (by omega) fun n62 hn62=>?_
    exact ihr42.use _ ⟨_,_,_,rfl,by omega,⟨cy,og,sp,rfl,hs,(cf_no e57 c7).trans (qut hf (by omega) hx56 hn62)⟩⟩ (by dsimp only;omega)
  ·refine qab (qaA (by dsimp only;omega) (by dsimp only;omega)) ?_
   rintro n55 hn55
   refine W_if (fun c8=>?_) fun c8=>?_
   ·refine qaa ?_
    have hf2:=hf
    rw[show n54.toNat=z37.length by omega,List.take_length] at hf2
    exact⟨b39,n40,n41,_,cy,og,sp,by dsimp only;rw[if_pos (by assumption)],by rw[List.take_length];omega,hs,hz37.2.2.1,(z3,n4,n5),z37,n38,ea▸e3,ez37,by rw[List.take_length,if_pos ⟨by dsimp only;omega,by rw[← ea];dsimp only;omega⟩,hz36,List.take_length,← ea],hf2⟩
   ·refine qaa ?_
    have hf2:=hf
    rw[show n54.toNat=z37.length by omega,List.take_length] at hf2
    exact⟨b39,n40,n41,_,cy,og,sp,by dsimp only;rw[if_neg (by assumption),hn55],by rw[List.take_length];omega,hs,hz37.2.2.1,(z3,n4,n5),z37,n38,ea▸e3,ez37,by rw[List.take_length,if_pos ⟨by dsimp only;omega,by rw[← ea];dsimp only;omega⟩,hz36,List.take_length,← ea],hf2⟩
 ·refine qab (qna (qlU lk (by omega))) ?_
  rintro⟨z7,n8,b9,n10,n11⟩ hz7
  dsimp only at hz7
  obtain⟨hz7,ez7⟩:=hz7
  refine qaj (fun v=>∃ x14 b21 n24,v=((),((t,x14,t3,t4,t5,t6,t7,t8,()),()),b21,z7,(z7.length:Int),n24,())∧(0≤n24∧n24≤(z7.length:Int))∧(∃ cy og sp,x14={t2 with any:=b9,last:=n10,lage:=n11,rest:=qam,cycle:=cy,offset:=og,splits:=sp}∧sp.length≤8∧(b21,cy,og,sp)=cfo t (false,t2.cycle,t2.offset,t2.splits) (z7.take n24.toNat))) (fun(_,((_,x14,_,_,_,_,_,_,_),_),b21,_,_,n24,_)=>((z7.length:Int)-n24).toNat) ⟨_,_,_,rfl,by omega,⟨t2.cycle,t2.offset,t2.splits,rfl,td,rfl⟩⟩ (by simp only[NN];omega) ?_
  rintro r12 _ ⟨x14,b21,n24,rfl,hr12_0,hr12_1⟩ ihr12
  obtain⟨cy,og,sp,rfl,hs,hf⟩:=hr12_1
  refine W_if (fun c9=>?_) fun c9=>?_
  ·refine W_ix (by omega) fun x26 hx26=>?_
   have b26:=qaq (d:=dflt 8) (n:=n24) hz7.2.1 (by omega)
   rw[← hx26] at b26
   refine qab (qna (qgi (by omega))) ?_
   rintro⟨n27,n28,n29,n30,z31⟩ hn27
   dsimp only at hn27
   obtain⟨hn27,e27⟩:=hn27
   refine W_if (fun c10=>?_) fun c10=>?_
   ·refine qab (qna (qiB p0 (by dsimp only;omega))) ?_
    rintro⟨n33,x34⟩ hn33
    dsimp only at hn33
    obtain⟨hn33,e33⟩:=hn33
    refine qah (by omega) fun n35 hn35=>?_
    exact ihr12.use _ ⟨_,_,_,rfl,by omega,⟨x34.cycle,x34.offset,x34.splits,rfl,by omega,(cf_yes e27 c10 e33).trans (qut hf (by omega) hx26 hn35)⟩⟩ (by dsimp only;omega)
   ·refine qah (by omega) fun n32 hn32=>?_
    exact ihr12.use _ ⟨_,_,_,rfl,by omega,⟨cy,og,sp,rfl,hs,(cf_no e27 c10).trans (qut hf (by omega) hx26 hn32)⟩⟩ (by dsimp only;omega)
  ·refine qab (qaA (by dsimp only;omega) (by dsimp only;omega)) ?_
   rintro n25 hn25
   refine W_if (fun c11=>?_) fun c11=>?_
   ·refine qaa ?_
    have hf2:=hf
    rw[show n24.toNat=z7.length by omega,List.take_length] at hf2
    exact⟨b9,n10,n11,_,cy,og,sp,by dsimp only;rw[if_pos (by assumption)],by simp,hs,hz7.2.2.1,(z3,n4,n5),z7,n8,ea▸e3,ez7,by rw[if_neg (fun h=>c3 (by rw[← ea] at h;dsimp only at h;omega))],hf2⟩
   ·refine qaa ?_
    have hf2:=hf
    rw[show n24.toNat=z7.length by omega,List.take_length] at hf2
    exact⟨b9,n10,n11,_,cy,og,sp,by dsimp only;rw[if_neg (by assumption),hn25],by simp,hs,hz7.2.2.1,(z3,n4,n5),z7,n8,ea▸e3,ez7,by rw[if_neg (fun h=>c3 (by rw[← ea] at h;dsimp only at h;omega))],hf2⟩
theorem q8d {t:SiteT}{t2:LocT}{t3:Inp}{t4:List Put}{t5:List Pls}{t6:List UInt8}{t7:List UInt8}{t8:List UInt8}(p0:SG t)(p1:LOk t t2)(p2:0≤t3.eyesf∧t3.eyesf<4294967296):W (qfW t t2 t3 t4 t5 t6 t7 t8) (fun r=>∃ pu ey ga ca wa,r=(t,{t2 with pulses:=pu,eyes:=ey,gaps:=ga,calls:=ca},t3,t4,wa,t6,t7,t8)∧pu.length=t.eyes.length∧ga.length=t.eyes.length∧wa.length=t.eyes.length∧ey.length≤1000):=by
 unfold qfW qnP
 obtain⟨⟨q1,q2,q3,q4,q5,q6,q7,q8⟩,q9⟩:=p0.ok.shape
 have lp:=p1.pulses
 have lg:=p1.gaps
 have le:=p1.eyes
 have ln:=p1.now.1
 refine qab (qhK (by omega)) ?_
 rintro z1 hz1
 have l1:=congrArg List.length hz1
 refine qab (qhK (by omega)) ?_
 rintro z2 hz2
 have l2:=congrArg List.length hz2
 refine qab (qqT (by omega)) ?_
 rintro z3 hz3
 have l3:=congrArg List.length hz3
 refine W_rs rfl ?_
 refine W_rs rfl ?_
 refine qaj (fun v=>∃ z5 z6 n39 n41,v=((z5,z6,()),((t,t2.disk,t2.seen,t2.start,t2.flashed,t2.mode,t2.well,t2.latched,t2.phase,t2.since,t2.any,t2.last,t2.lage,t2.rest,t2.cycle,t2.offset,t2.splits,t2.age,t2.eyes,t2.calls,t2.wrong,t2.tick,t2.greens,t2.busy,t2.came,t2.sent,t3,t4,(List.take z1.length z1),t6,t7,t8,()),()),n39,(z2.length:Int),n41,())∧(0≤n41∧n41≤(z2.length:Int))∧(z5.length=z2.length)∧(z6.length=z2.length)∧(0≤n39∧n39<4294967296)) (fun((z5,z6,_),((_,_,_,_,_,_,_,_,_,_,_,_,_,_,_,_,_,_,_,_,_,_,_,_,_,_,_,_,_,_,_,_,_),_),n39,_,n41,_)=>((z2.length:Int)-n41).toNat) ⟨_,_,_,_,rfl,by omega,rfl,by omega,by omega⟩ (by simp only[NN];omega) ?_
 rintro r4 _ ⟨z5,z6,n39,n41,rfl,hr4_0,hr4_1,hr4_2,hr4_3⟩ ihr4
 refine W_if (fun c3=>?_) fun c3=>?_
 ·refine W_rb (by omega) ?_
  refine qaf (by omega) ?_
  refine qaf (by omega) ?_
  refine qac fun n50 hn50=>?_
  refine qac fun n51 hn51=>?_
  refine qab (q20) ?_
  rintro⟨n52,x53⟩ hn52
  refine W_rb (by omega) ?_
  refine qaf (by omega) ?_
  refine qac fun z54 hz54=>?_
  have m54:z54.length=z5.length:=by rw[hz54,List.length_set]
  refine W_rb (by omega) ?_
  refine qaf (by omega) ?_
  refine W_rb (by omega) ?_
  refine qaf (by omega) ?_
  refine qab (q8s) ?_
  rintro⟨n55,x56⟩ hn55
  refine W_rb (by omega) ?_
  refine qaf (by omega) ?_
  refine qac fun z57 hz57=>?_
  have m57:z57.length=z6.length:=by rw[hz57,List.length_set]
  refine W_rb (by omega) ?_
  refine qaf (by omega) ?_
  refine W_if (fun c17=>?_) fun c17=>?_
  ·refine qaf (by omega) ?_
   refine qac fun n59 hn59=>?_
   refine qac fun n60 hn60=>?_
   have u60:=q0h .or n39 n59
   rw[← hn60] at u60
   refine qah (by omega) fun n61 hn61=>?_
   refine W_rs (by omega) ?_
   refine W_rs (by omega) ?_
   exact ihr4.use _ ⟨_,_,_,_,rfl,by omega,by omega,by omega,by omega⟩ (by dsimp only;omega)
  ·refine qah (by omega) fun n58 hn58=>?_
   refine W_rs (by omega) ?_
   refine W_rs (by omega) ?_
   exact ihr4.use _ ⟨_,_,_,_,rfl,by omega,by omega,by omega,by omega⟩ (by dsimp only;omega)
 ·refine qab (eyeAll_w p0 le hr4_3) ?_
  rintro⟨z42,n43⟩ hz42
  dsimp only at hz42
  refine qab (qlT (by omega) (by omega)) ?_
  rintro⟨b44,n45⟩ hb44
  refine W_if (fun c23=>?_) fun c23=>?_
  ·refine qab (qur (by omega) (by omega)) ?_
   rintro⟨n48,n49⟩ hn48
   refine qaa ?_
   exact⟨_,_,_,_,_,rfl,by rw[List.take_length];omega,by rw[List.take_length];omega,by rw[List.take_length];omega,hz42.2⟩
  ·refine qab (qur (by omega) (by omega)) ?_
   rintro⟨n46,n47⟩ hn46
   refine qaa ?_
   exact⟨_,_,_,_,_,rfl,by rw[List.take_length];omega,by rw[List.take_length];omega,by rw[List.take_length];omega,hz42.2⟩
end Go.Proofs.YtcdppfnjidlknaaGreatDoor
