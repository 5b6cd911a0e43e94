import Derived.Test.YtcdppfnjidlknaaGreatDoorYbb
set_option linter.unusedVariables false
set_option linter.unusedSimpArgs false
namespace Go.Proofs.YtcdppfnjidlknaaGreatDoor
open Go Go.Eng Go.Proofs Go.Wp
theorem q2m {s:List (List UInt8)}(p0:2≤s.length∧s.length≤1000)(p1:s.flatten.length≤1000000):W (qpR s) (fun r=>r=s.flatten):=by
 unfold qpR qlu
 have ld:(List.drop (Int.toNat (1:Int)) s).length=s.length-1:=by simp
 have cs:=q43 (l:=s) (Nat.le_refl _)
 have c1l:catL s 1=s.getD 0 (dflt 6):=by
  have:=qgj (l:=s) (i:=0) (by omega)
  rw[this];simp[catL]
 refine W_if (fun c1=>?_) fun c1=>?_
 ·refine qaa ?_
  first|omega|simp|trivial
 ·refine W_if (fun c2=>?_) fun c2=>?_
  ·refine qaf (by omega) ?_
   refine qac fun z28 hz28=>?_
   refine qaf (by omega) ?_
   refine qac fun z29 hz29=>?_
   refine qaa ?_
   first|omega|simp|trivial
  ·refine qaj (fun v=>∃ n4 n7,v=((),(),s,qam,n4,s,(s.length:Int),n7,())∧(0≤n7∧n7≤(s.length:Int))∧(n4=(catL s n7.toNat).length)) (fun(_,_,_,_,n4,_,_,n7,_)=>((s.length:Int)-n7).toNat) ⟨_,_,rfl,by omega,by simp[catL]⟩ (by simp only[NN];omega) ?_
   rintro r1 _ ⟨n4,n7,rfl,hr1_0,hr1_1⟩ ihr1
   have jl:=qh4 (l:=s) n7.toNat
   refine W_if (fun c5=>?_) fun c5=>?_
   ·refine W_ix (by omega) fun z24 hz24=>?_
    have j:=qgj (l:=s) (i:=n7.toNat) (by omega)
    rw[← hz24] at j
    have j1:=congrArg List.length j;rw[List.length_append] at j1
    have j2:=qh4 (l:=s) (n7.toNat+1)
    refine W_wi (by omega) fun n25 hn25=>?_
    refine W_if (fun c6=>?_) fun c6=>?_
    ·exfalso;omega
    ·refine W_wi (by omega) fun n26 hn26=>?_
     refine qah (by omega) fun n27 hn27=>?_
     exact ihr1.use _ ⟨_,_,rfl,by omega,by rw[show n27.toNat=n7.toNat+1 from by omega];omega⟩ (by dsimp only;omega)
   ·have e7:n7.toNat=s.length:=by omega
    rw[e7,cs] at hr1_1
    refine qaf (by omega) ?_
    refine qaf (by omega) ?_
    refine W_any (fun g8=>?_)
    refine qaf (by omega) ?_
    refine qaf (by omega) ?_
    refine qaf (by omega) ?_
    refine qaf (by omega) ?_
    refine qac fun z9 hz9=>?_
    have e9:z9=catL s 1:=by rw[c1l];exact hz9
    have l9:=qh4 (l:=s) 1
    rw[← e9] at l9
    have m9:z9.length.min n4.toNat=z9.length:=Nat.min_eq_left (by omega)
    rw[m9]
    refine qac fun z10 hz10=>?_
    have q10:z10.length=n4.toNat:=by rw[hz10];simp;omega
    have k10:z10.take z9.length=catL s 1:=by
     rw[hz10,List.nil_append,List.take_length,List.take_append_of_le_length (Nat.le_refl _),List.take_length];exact e9
    refine qaf (by omega) ?_
    refine W_rs (by omega) ?_
    refine qaj (fun v=>∃ z12 n14 n17,v=((z12,()),(),qam,n14,(List.drop (Int.toNat (1:Int)) s),(↑(List.drop (Int.toNat (1:Int)) s).length:Int),n17,())∧(0≤n17∧n17≤(↑(List.drop (Int.toNat (1:Int)) s).length:Int))∧(z12.length=n4.toNat)∧(n14=(catL s (n17.toNat+1)).length)∧(z12.take n14.toNat=catL s (n17.toNat+1))) (fun((z12,_),_,_,n14,_,_,n17,_)=>((↑(List.drop (Int.toNat (1:Int)) s).length:Int)-n17).toNat) ⟨_,_,_,rfl,by omega,q10,by rw[e9];rfl,k10⟩ (by simp only[NN];omega) ?_
    rintro r11 _ ⟨z12,n14,n17,rfl,hr11_0,hr11_1,hr11_2,hr11_3⟩ ihr11
    have jl:=qh4 (l:=s) (n17.toNat+1)
    refine W_if (fun c15=>?_) fun c15=>?_
    ·refine W_ix (by omega) fun z18 hz18=>?_
     have e18:z18=s.getD (n17.toNat+1) (dflt 6):=by
      rw[hz18,List.getD_eq_getElem?_getD,List.getElem?_drop,List.getD_eq_getElem?_getD,Nat.add_comm];rfl
     have j:=qgj (l:=s) (i:=n17.toNat+1) (by omega)
     rw[← e18] at j
     have j1:=congrArg List.length j;rw[List.length_append] at j1
     have j2:=qh4 (l:=s) (n17.toNat+1+1)
     have m0:qam.length.min (z12.length-n14.toNat)=0:=Nat.zero_min _
     rw[m0]
     refine qaf (by omega) ?_
     refine qaf (by omega) ?_
     refine qac fun z19 hz19=>?_
     have e19:z19=z12:=by rw[hz19];simp
     refine W_wi (by omega) fun n20 hn20=>?_
     have m1:z18.length.min (z12.length-n20.toNat)=z18.length:=Nat.min_eq_left (by omega)
     rw[m1]
     refine qaf (by omega) ?_
     refine qaf (by omega) ?_
     refine qac fun z21 hz21=>?_
     subst e19
     have t1:n20.toNat=(catL s (n17.toNat+1)).length:=by omega
     have jo:=q80 (z:=z19) (t:=catL s (n17.toNat+1)) (y:=z18) (by rw[← t1,show n20=n14 from by omega];exact hr11_3) (by omega)
     rw[← t1,← Nat.zero_add n20.toNat,← hz21,← j] at jo
     refine W_wi (by omega) fun n22 hn22=>?_
     refine qah (by omega) fun n23 hn23=>?_
     refine W_rs (by omega) ?_
     exact ihr11.use _ ⟨_,_,_,rfl,by omega,by omega,by rw[show n23.toNat=n17.toNat+1 from by omega];omega,by rw[show n23.toNat=n17.toNat+1 from by omega,show n22.toNat=(catL s (n17.toNat+1+1)).length from by omega];exact jo.1⟩ (by dsimp only;omega)
    ·refine qaa ?_
     rw[show n17.toNat+1=s.length from by omega,cs] at hr11_3 hr11_2
     rw[← hr11_3,List.take_of_length_le (Nat.le_refl _),List.take_of_length_le (by omega)]
theorem qbH {k:Int}{k2:Int}{k3:List Plan}{many:Int}(p0:k<4611686018427387904)(p1:∀ q∈k3,q.splits.length≤1000000)(p2:0≤k2):W (qbr k k2 k3 many) (fun r=>(r.1.length:Int)≤max many 0∧(∀ x∈r.1,x.length=64)):=by
 unfold qbr qfQ
 refine W_if (fun c1=>?_) fun c1=>?_
 ·refine qaa ?_
  simp;omega
 ·refine W_if (fun c2=>?_) fun c2=>?_
  ·refine qaa ?_
   simp;omega
  ·refine qab (qi7 (by omega)) ?_
   rintro⟨z1,n2⟩ hz1
   dsimp only at hz1
   refine W_if (fun c3=>?_) fun c3=>?_
   ·refine qaa ?_
    simp;omega
   ·refine W_wu (by omega) fun n3 hn3=>?_
    refine qab (qc9 (by omega)) ?_
    rintro z4 hz4
    refine W_rm (by omega) ?_
    refine qac fun z5 hz5=>?_
    have lz5:=congrArg List.length hz5;try simp at lz5
    refine W_wu (by omega) fun n6 hn6=>?_
    refine qab (qc9 (by omega)) ?_
    rintro z7 hz7
    refine qaf (by omega) ?_
    refine qac fun z8 hz8=>?_
    have lz8:=congrArg List.length hz8;try simp at lz8
    refine W_wi (by omega) fun n9 hn9=>?_
    refine W_if (fun c6=>?_) fun c6=>?_
    ·refine qaa ?_
     simp;omega
    ·refine W_wi (by omega) fun n10 hn10=>?_
     refine W_wi (by omega) fun n11 hn11=>?_
     refine qaf (by omega) ?_
     refine qaf (by omega) ?_
     refine qac fun z12 hz12=>?_
     have lz12:=congrArg List.length hz12;try simp at lz12
     refine W_wu (by omega) fun n13 hn13=>?_
     refine qab (qwz (by omega) (by omega)) ?_
     rintro⟨z14,n15⟩ hz14
     dsimp only at hz14
     have lw:(List.take (z7.length+(z4.length+z1.length)+n11.toNat) z12).length=(48*many).toNat:=by
      rw[List.length_take];omega
     have l8:z14.length=8:=hz14.2.2.1 rfl
     refine qaj (fun v=>∃ z17 n21,v=((z17,()),(),(List.take (z7.length+(z4.length+z1.length)+n11.toNat) z12),(List.take z14.length z14),many,n21,())∧(0≤n21∧n21≤many)∧((z17.length:Int)=n21∧n21≤32)∧(∀ x∈z17,x.length=64)) (fun((z17,_),_,_,_,_,n21,_)=>(many-n21).toNat) ⟨_,_,rfl,by omega,by simp,by simp⟩ (by simp only[NN];omega) ?_
     rintro r16 _ ⟨z17,n21,rfl,hr16_0,hr16_1,hr16_2⟩ ihr16
     refine W_if (fun c9=>?_) fun c9=>?_
     ·refine W_wi (by omega) fun n22 hn22=>?_
      refine qaf (by omega) ?_
      refine qaf (by omega) ?_
      refine qaf (by simp;omega) ?_
      refine qab (q2m (by simp) (by simp;omega)) ?_
      rintro z23 hz23
      refine W_rm (by omega) ?_
      refine qac fun z24 hz24=>?_
      have lz24:=congrArg List.length hz24;try simp at lz24
      refine qah (by omega) fun n25 hn25=>?_
      refine W_rs (by omega) ?_
      exact ihr16.use _ ⟨_,_,rfl,by omega,by omega,by rw[hz24,List.take_length];intro q hq;rcases List.mem_append.1 hq with h|h;exact hr16_2 q h;simp only[List.mem_singleton] at h;subst h;rw[hz23];simp only[List.flatten_cons,List.flatten_nil,List.length_append,List.length_take,List.length_drop,List.length_nil];omega⟩ (by dsimp only;omega)
     ·refine qaa ?_
      dsimp only;rw[List.take_length];exact⟨by omega,hr16_2⟩
theorem qqZ {s:Int}{s2:Int}{s3:List Plan}{s4:List (List UInt8)}{s5:Bool}{q:Int}{q2:Int}{q3:List Plan}{q4:List (List UInt8)}{q5:Bool}:W (qjs s s2 s3 s4 s5 q q2 q3 q4 q5) (fun r=>(s,s2,s3,s4,s5,q,q2,q3,q4,q5)=r.2):=by
 unfold qjs qla
 refine qaa ?_
 rfl
theorem qlQ {s:Int}{s2:Int}{s3:List Plan}{s4:List (List UInt8)}{s5:Bool}{gen:Int}(p0:s4.length≤32∧∀ x∈s4,x.length=64)(p1:0≤gen∧gen<4611686018427387904):W (qjK s s2 s3 s4 s5 gen) (fun r=>r.2=(s,s2,s3,s4,s5)∧0≤r.1):=by
 unfold qjK qqm
 refine qaj (fun v=>∃ n7 n10,v=((),((s,s2,s3,s4,s5,()),()),n7,s4,(s4.length:Int),n10,())∧(0≤n10∧n10≤(s4.length:Int))∧(0≤n7∧n7<4611686018427387904)) (fun(_,((_,_,_,_,_,_),_),n7,_,_,n10,_)=>((s4.length:Int)-n10).toNat) ⟨_,_,rfl,by omega,p1⟩ (by simp only[NN];omega) ?_
 rintro r1 _ ⟨n7,n10,rfl,hr1_0,hr1_1⟩ ihr1
 refine W_if (fun c1=>?_) fun c1=>?_
 ·refine W_ix (by omega) fun z34 hz34=>?_
  have l34:=qaq (d:=dflt 6) p0.2 (n:=n10) (by omega)
  rw[← hz34] at l34
  refine qaf (by omega) ?_
  refine qaf (by omega) ?_
  refine qab (qfd) ?_
  rintro n35 hn35
  refine qab (qfd) ?_
  rintro n36 hn36
  refine qaj (fun v=>∃ n44 n49,v=(((UInt64.ofNat n35.toNat::UInt64.ofNat n36.toNat::nilL3),()),((s,s2,s3,s4,s5,()),()),n44,s4,(s4.length:Int),n10,(↑2:Int),n49,())∧(0≤n49∧n49≤(↑2:Int))∧(0≤n44∧n44<4611686018427387904)) (fun((_,_),((_,_,_,_,_,_),_),n44,_,_,_,_,n49,_)=>((↑2:Int)-n49).toNat) ⟨_,_,rfl,by simp,hr1_1⟩ (by simp only[NN];omega) ?_
  rintro r37 _ ⟨n44,n49,rfl,hr37_0,hr37_1⟩ ihr37
  refine W_if (fun c4=>?_) fun c4=>?_
  ·refine W_rb (by simp;omega) ?_
   refine qaf (by simp;omega) ?_
   refine qac fun n51 hn51=>?_
   refine W_if (fun c7=>?_) fun c7=>?_
   ·refine W_wi (by (have:=(UInt64.toNat_lt ((UInt64.ofNat n35.toNat::UInt64.ofNat n36.toNat::nilL3).getD (0+n49.toNat) 0));omega)) fun n53 hn53=>?_
    refine qac fun n54 hn54=>?_
    refine qah (by omega) fun n55 hn55=>?_
    refine W_rs rfl ?_
    exact ihr37.use _ ⟨_,_,rfl,by omega,by omega⟩ (by dsimp only;omega)
   ·refine qah (by omega) fun n52 hn52=>?_
    refine W_rs rfl ?_
    exact ihr37.use _ ⟨_,_,rfl,by omega,by omega⟩ (by dsimp only;omega)
  ·refine qah (by omega) fun n50 hn50=>?_
   exact ihr1.use _ ⟨_,_,rfl,by omega,by omega⟩ (by dsimp only;omega)
 ·refine qah (by omega) fun n11 hn11=>?_
  refine qaj (fun v=>∃ n18,v=((),((s,s2,s3,s4,s5,()),()),n18,())∧(Sx n7 s4 n18)) (fun(_,((_,_,_,_,_,_),_),n18,_)=>(n7+40-n18).toNat) ⟨_,rfl,by rw[hn11];exact sx_0 _ _⟩ (by simp only[NN];omega) ?_
  rintro r12 _ ⟨n18,rfl,hr12_0⟩ ihr12
  have b12:=hr12_0.1
  refine qaj (fun v=>∃ n28,v=((),((s,s2,s3,s4,s5,()),()),n18,s4,(s4.length:Int),n28,())∧(0≤n28∧n28≤(s4.length:Int))) (fun(_,((_,_,_,_,_,_),_),_,_,_,n28,_)=>((s4.length:Int)-n28).toNat) ⟨_,rfl,by omega⟩ (by simp only[NN];omega) ?_
  rintro r19 _ ⟨n28,rfl,hr19_0⟩ ihr19
  refine W_if (fun c10=>?_) fun c10=>?_
  ·refine W_ix (by omega) fun z29 hz29=>?_
   have l29:=qaq (d:=dflt 6) p0.2 (n:=n28) (by omega)
   rw[← hz29] at l29
   refine qaf (by omega) ?_
   refine qac fun x30 hx30=>?_
   refine qac fun n31 hn31=>?_
   refine W_if (fun c12=>?_) fun c12=>?_
   ·refine qah (by omega) fun n33 hn33=>?_
    exact ihr12.use _ ⟨_,rfl,by rw[hn33];exact sx_step p0.1 hr12_0 (fun hf=>hf z29 (hz29▸qb6 (by omega)) (by rw[← wb_eq n18,← hn31,← c12,hx30];rfl))⟩ (by dsimp only;omega)
   ·refine qah (by omega) fun n32 hn32=>?_
    exact ihr19.use _ ⟨_,rfl,by omega⟩ (by dsimp only;omega)
  ·refine qaa ?_
   exact⟨rfl,by dsimp only;omega⟩
theorem qh2 {s:Int}{s2:Int}{s3:List Plan}{s4:List (List UInt8)}{s5:Bool}(p0:1≤s4.length∧s4.length≤32∧∀ x∈s4,x.length=64)(p1:(s3.length≤8∧∀ p∈s3,PlB p))(p2:0≤s∧s<4611686018427387904):W (qhi s s2 s3 s4 s5) (fun r=>(0≤r.1∧r.1<4611686018427387904)∧(r.2.2.1.length≤8∧∀ p∈r.2.2.1,PlB p)∧r.2.2.2.1=s4):=by
 unfold qhi qq1
 refine qaj (fun v=>∃ z2 n10,v=((z2,()),((s,s2,s3,s4,s5,()),()),s4,(s4.length:Int),n10,())∧(0≤n10∧n10≤(s4.length:Int))∧((z2.length:Int)=48*n10)) (fun((z2,_),((_,_,_,_,_,_),_),_,_,n10,_)=>((s4.length:Int)-n10).toNat) ⟨_,_,rfl,by omega,by simp⟩ (by simp only[NN];omega) ?_
 rintro r1 _ ⟨z2,n10,rfl,hr1_0,hr1_1⟩ ihr1
 refine W_if (fun c1=>?_) fun c1=>?_
 ·refine W_ix (by omega) fun z43 hz43=>?_
  have l43:=qaq (d:=dflt 6) p0.2.2 (n:=n10) (by omega)
  rw[← hz43] at l43
  refine qaf (by omega) ?_
  refine qaf (by simp;omega) ?_
  refine qaf (by simp;omega) ?_
  refine qac fun z44 hz44=>?_
  have lz44:=congrArg List.length hz44;try simp at lz44
  refine qah (by omega) fun n45 hn45=>?_
  refine W_rs (by first|rfl|omega|(simp<;>omega)) ?_
  exact ihr1.use _ ⟨_,_,rfl,by omega,by omega⟩ (by dsimp only;omega)
 ·refine qaf (by omega) ?_
  refine qac fun z11 hz11=>?_
  have lz11:=congrArg List.length hz11;try simp at lz11
  have l11:z11.length=64:=by
   rw[hz11];exact qaq (d:=dflt 6) (n:=0) p0.2.2 (by omega)
  refine qaf (by omega) ?_
  refine qab (qfd) ?_
  rintro n12 hn12
  refine qab (qkr (by simp;omega)) ?_
  rintro⟨n13,n14,n15⟩ hn13
  dsimp only at hn13
  rw[List.take_length] at hn13
  refine W_wi (by omega) fun n16 hn16=>?_
  refine W_wu (by omega) fun n17 hn17=>?_
  refine W_if (fun c8=>?_) fun c8=>?_
  ·refine qaa ?_
   exact⟨p2,p1,rfl⟩
  ·refine qaf (by omega) ?_
   refine qaf (by omega) ?_
   refine qaf (by omega) ?_
   refine qaf (by omega) ?_
   refine qab (qkr (by simp;omega)) ?_
   rintro⟨n18,n19,n20⟩ hn18
   dsimp only at hn18
   rw[List.length_take,List.length_drop] at hn18
   refine W_if (fun c13=>?_) fun c13=>?_
   ·refine qaa ?_
    exact⟨p2,p1,rfl⟩
   ·refine qaf (by omega) ?_
    refine qaf (by omega) ?_
    refine qab (q2h (by simp;omega)) ?_
    rintro⟨z21,n22⟩ hz21
    dsimp only at hz21
    refine W_if (fun c16=>?_) fun c16=>?_
    ·refine qaa ?_
     exact⟨p2,p1,rfl⟩
    ·refine W_wi (by omega) fun n23 hn23=>?_
     refine qac fun n24 hn24=>?_
     refine qab (qbH (by omega) (fun q hq=>by have:=(hz21.2 q hq).1;omega) (by rw[hn24,wb_eq];omega)) ?_
     rintro⟨z25,n26⟩ hz25
     dsimp only at hz25
     refine W_if (fun c17=>?_) fun c17=>?_
     ·refine qaa ?_
      exact⟨p2,p1,rfl⟩
     ·refine qaj (fun v=>∃ n38,v=((),((s,s2,s3,s4,s5,()),(n23,n24,z21,()),()),z25,(z25.length:Int),n38,())∧(0≤n38∧n38≤(z25.length:Int))) (fun(_,((_,_,_,_,_,_),(_,_,_,_),_),_,_,n38,_)=>((z25.length:Int)-n38).toNat) ⟨_,rfl,by omega⟩ (by simp only[NN];omega) ?_
      rintro r27 _ ⟨n38,rfl,hr27_0⟩ ihr27
      refine W_if (fun c18=>?_) fun c18=>?_
      ·refine W_ix (by omega) fun z39 hz39=>?_
       refine W_ix (by omega) fun z40 hz40=>?_
       refine qab (qgc) ?_
       rintro b41 hb41
       refine W_if (fun c19=>?_) fun c19=>?_
       ·refine qaa ?_
        exact⟨p2,p1,rfl⟩
       ·refine qah (by omega) fun n42 hn42=>?_
        exact ihr27.use _ ⟨_,rfl,by omega⟩ (by dsimp only;omega)
      ·refine qaa ?_
       dsimp only;exact⟨⟨by omega,by omega⟩,hz21,rfl⟩
theorem qfe {d:List UInt8}(p0:d.length≤1000000000):W (qdZ d) (fun r=>(r.2.2.2.length≤8∧∀ p∈r.2.2.2,PlB p)∧(0≤r.2.1∧r.2.1<4611686018427387904)):=by
 unfold qdZ qc8
 refine qab (qfa (by omega)) ?_
 rintro⟨n1,n2⟩ hn1
 dsimp only at hn1
 have td:=Int.tdiv_eq_ediv_of_nonneg (a:=n1) (b:=2)
 refine W_if (fun c1=>?_) fun c1=>?_
 ·refine qaf (by omega) ?_
  refine qaa ?_
  first|omega|simp|trivial
 ·refine W_if (fun c3=>?_) fun c3=>?_
  ·refine qaa ?_
   first|omega|simp|trivial
  ·refine qa3 (fun(_,((z37,_),_,(n38,n39,z40,z41,b42,_),_),n43,_)=>d=z37∧(0:Int)=n38∧(0:Int)=n39∧qaP=z40∧false=b42∧n1=n43∧((1≤z41.length∧z41.length≤32∧∀ x∈z41,x.length=64))) (fun J3 hJ3=>?_) ?_
   ·refine W_wi (by omega) fun n4 hn4=>?_
    refine qaj (fun v=>∃ z6 n14,v=((z6,()),((d,()),(),((0:Int),(0:Int),qaP,false,()),()),n1,n4,n14,())∧(0≤n14∧n14≤n4)∧((z6.length:Int)=n14)∧(∀ x∈z6,x.length=64)) (fun((z6,_),((_,_),_,(_,_,_,_,_),_),_,_,n14,_)=>(n4-n14).toNat) ⟨_,_,rfl,by omega,by simp,by simp⟩ (by simp only[NN];omega) ?_
    rintro r5 _ ⟨z6,n14,rfl,hr5_0,hr5_1,hr5_2⟩ ihr5
    refine W_if (fun c4=>?_) fun c4=>?_
    ·refine W_wi (by omega) fun n15 hn15=>?_
     refine W_wi (by omega) fun n16 hn16=>?_
     refine W_wi (by omega) fun n17 hn17=>?_
     refine qab (qfc (by omega)) ?_
     rintro⟨z18,n19⟩ hz18
     dsimp only at hz18
     have r18:=hz18.2 ⟨by omega,by omega,by omega⟩
     rw[if_pos r18] at hz18
     refine qa3 (fun((z27,_),((z28,_),_,(n29,n30,z31,b32,_),_),n33,n34,n35,_)=>d=z28∧(0:Int)=n29∧(0:Int)=n30∧qaP=z31∧false=b32∧n1=n33∧n4=n34∧n14=n35∧((z27.length:Int)=n14+1∧∀ x∈z27,x.length=64)) (fun J20 hJ20=>?_) ?_
     ·refine W_sm ?_
      refine W_rm (by omega) ?_
      refine qac fun z21 hz21=>?_
      have lz21:=congrArg List.length hz21;try simp at lz21
      refine W_rs (by omega) ?_
      exact hJ20.use _ (by dsimp only;exact⟨rfl,rfl,rfl,rfl,rfl,rfl,rfl,rfl,by omega,qdH hr5_2 hz21 (by rw[List.take_length];exact hz18.1)⟩)
     ·rintro⟨⟨z27,_⟩,⟨⟨z28,_⟩,_,⟨n29,n30,z31,b32,_⟩,_⟩,n33,n34,n35,_⟩ kJ20;dsimp only at kJ20
      obtain⟨rfl,rfl,rfl,rfl,rfl,rfl,rfl,rfl,kJ20⟩:=kJ20
      obtain⟨k5,k6⟩:=kJ20
      refine qah (by omega) fun n36 hn36=>?_
      refine W_rs rfl ?_
      exact ihr5.use _ ⟨_,_,rfl,by omega,by omega,k6⟩ (by dsimp only;omega)
    ·exact hJ3.use _ (by dsimp only;exact⟨rfl,rfl,rfl,rfl,rfl,rfl,by rw[List.take_length];omega,by rw[List.take_length];omega,by rw[List.take_length];exact hr5_2⟩)
   ·rintro⟨_,⟨⟨z37,_⟩,_,⟨n38,n39,z40,z41,b42,_⟩,_⟩,n43,_⟩ kJ3;dsimp only at kJ3
    obtain⟨rfl,rfl,rfl,rfl,rfl,rfl,kJ3⟩:=kJ3
    refine qab (qh2 (by omega) (by simp) (by omega)) ?_
    rintro⟨n44,n45,z46,z47,b48⟩ hn44
    dsimp only at hn44
    refine qa3 (fun(_,((z93,_),_,(n94,n95,z96,z97,b98,_),(n99,n100,z101,z102,b103,_),_),n104,_)=>d=z93∧n44=n94∧n45=n95∧z46=z96∧z47=z97∧b48=b98∧(0:Int)=n99∧(0:Int)=n100∧qaP=z101∧false=b103∧n1=n104∧((1≤z102.length∧z102.length≤32∧∀ x∈z102,x.length=64))) (fun J49 hJ49=>?_) ?_
    ·refine W_wi (by omega) fun n50 hn50=>?_
     refine qaj (fun v=>∃ z52 n65,v=((z52,()),((d,()),(),(n44,n45,z46,z47,b48,()),((0:Int),(0:Int),qaP,false,()),()),n1,n50,n65,())∧(0≤n65∧n65≤n50)∧((z52.length:Int)=n65)∧(∀ x∈z52,x.length=64)) (fun((z52,_),((_,_),_,(_,_,_,_,_,_),(_,_,_,_,_),_),_,_,n65,_)=>(n50-n65).toNat) ⟨_,_,rfl,by omega,by simp,by simp⟩ (by simp only[NN];omega) ?_
     rintro r51 _ ⟨z52,n65,rfl,hr51_0,hr51_1,hr51_2⟩ ihr51
     refine W_if (fun c8=>?_) fun c8=>?_
     ·refine W_wi (by omega) fun n66 hn66=>?_
      refine W_wi (by omega) fun n67 hn67=>?_
      refine W_wi (by omega) fun n68 hn68=>?_
      refine qab (qfc (by omega)) ?_
      rintro⟨z69,n70⟩ hz69
      dsimp only at hz69
      have r69:=hz69.2 ⟨by omega,by omega,by omega⟩
      rw[if_pos r69] at hz69
      refine qa3 (fun((z78,_),((z79,_),_,(n80,n81,z82,z83,b84,_),(n85,n86,z87,b88,_),_),n89,n90,n91,_)=>d=z79∧n44=n80∧n45=n81∧z46=z82∧z47=z83∧b48=b84∧(0:Int)=n85∧(0:Int)=n86∧qaP=z87∧false=b88∧n1=n89∧n50=n90∧n65=n91∧((z78.length:Int)=n65+1∧∀ x∈z78,x.length=64)) (fun J71 hJ71=>?_) ?_
      ·refine W_sm ?_
       refine W_rm (by omega) ?_
       refine qac fun z72 hz72=>?_
       have lz72:=congrArg List.length hz72;try simp at lz72
       refine W_rs (by omega) ?_
       exact hJ71.use _ (by dsimp only;exact⟨rfl,rfl,rfl,rfl,rfl,rfl,rfl,rfl,rfl,rfl,rfl,rfl,rfl,by omega,qdH hr51_2 hz72 (by rw[List.take_length];exact hz69.1)⟩)
      ·rintro⟨⟨z78,_⟩,⟨⟨z79,_⟩,_,⟨n80,n81,z82,z83,b84,_⟩,⟨n85,n86,z87,b88,_⟩,_⟩,n89,n90,n91,_⟩ kJ71;dsimp only at kJ71
       obtain⟨rfl,rfl,rfl,rfl,rfl,rfl,rfl,rfl,rfl,rfl,rfl,rfl,rfl,kJ71⟩:=kJ71
       obtain⟨k15,k16⟩:=kJ71
       refine qah (by omega) fun n92 hn92=>?_
       refine W_rs rfl ?_
       exact ihr51.use _ ⟨_,_,rfl,by omega,by omega,k16⟩ (by dsimp only;omega)
     ·exact hJ49.use _ (by dsimp only;exact⟨rfl,rfl,rfl,rfl,rfl,rfl,rfl,rfl,rfl,rfl,rfl,by rw[List.take_length];omega,by rw[List.take_length];omega,by rw[List.take_length];exact hr51_2⟩)
    ·rintro⟨_,⟨⟨z93,_⟩,_,⟨n94,n95,z96,z97,b98,_⟩,⟨n99,n100,z101,z102,b103,_⟩,_⟩,n104,_⟩ kJ49;dsimp only at kJ49
     obtain⟨rfl,rfl,rfl,rfl,rfl,rfl,rfl,rfl,rfl,rfl,rfl,kJ49⟩:=kJ49
     refine qab (qh2 (by omega) (by simp) (by omega)) ?_
     rintro⟨n105,n106,z107,z108,b109⟩ hn105
     dsimp only at hn105
     refine qab (qqZ) ?_
     rintro⟨b110,n111,n112,z113,z114,b115,n116,n117,z118,z119,b120⟩ hb110
     dsimp only at hb110
     simp only[Prod.mk.injEq] at hb110;obtain⟨rfl,rfl,rfl,rfl,rfl,rfl,rfl,rfl,rfl,rfl⟩:=hb110
     refine W_if (fun c12=>?_) fun c12=>?_
     ·refine qaa ?_
      exact⟨hn44.2.1,hn44.1⟩
     ·refine W_if (fun c13=>?_) fun c13=>?_
      ·refine qaa ?_
       exact⟨hn105.2.1,hn105.1⟩
      ·refine qaa ?_
       first|omega|simp|trivial
theorem quj {d:List UInt8}{mode:Int}{l:List Plan}(p0:0≤mode)(p1:d.length≤1000000000)(p2:∀ q∈l,q.splits.length≤1000000):W (qnL d mode l) (fun r=>r.1.length≤32∧(∀ p∈r.1,p.data.length=64)):=by
 unfold qnL qea
 refine qab (qfa (by omega)) ?_
 rintro⟨n1,n2⟩ hn1
 dsimp only at hn1
 have td:=Int.tdiv_eq_ediv_of_nonneg (a:=n1) (b:=2)
 refine W_if (fun c1=>?_) fun c1=>?_
 ·refine W_if (fun c2=>?_) fun c2=>?_
  ·refine qaa ?_
   first|(simp;done)|(dsimp only;rw[List.take_length];exact⟨by omega,by assumption⟩)
  ·refine qaf (by omega) ?_
   refine qaa ?_
   first|(simp;done)|(dsimp only;rw[List.take_length];exact⟨by omega,by assumption⟩)
 ·refine W_if (fun c4=>?_) fun c4=>?_
  ·refine qaa ?_
   first|(simp;done)|(dsimp only;rw[List.take_length];exact⟨by omega,by assumption⟩)
  ·refine qa3 (fun(_,((z37,_),_,(n38,n39,z40,z41,b42,_),_),n43,_)=>d=z37∧(0:Int)=n38∧(0:Int)=n39∧qaP=z40∧false=b42∧n1=n43∧((1≤z41.length∧z41.length≤32∧∀ x∈z41,x.length=64))) (fun J3 hJ3=>?_) ?_
   ·refine W_wi (by omega) fun n4 hn4=>?_
    refine qaj (fun v=>∃ z6 n14,v=((z6,()),((d,()),(),((0:Int),(0:Int),qaP,false,()),()),n1,n4,n14,())∧(0≤n14∧n14≤n4)∧((z6.length:Int)=n14)∧(∀ x∈z6,x.length=64)) (fun((z6,_),((_,_),_,(_,_,_,_,_),_),_,_,n14,_)=>(n4-n14).toNat) ⟨_,_,rfl,by omega,by simp,by simp⟩ (by simp only[NN];omega) ?_
    rintro r5 _ ⟨z6,n14,rfl,hr5_0,hr5_1,hr5_2⟩ ihr5
    refine W_if (fun c5=>?_) fun c5=>?_
    ·refine W_wi (by omega) fun n15 hn15=>?_
     refine W_wi (by omega) fun n16 hn16=>?_
     refine W_wi (by omega) fun n17 hn17=>?_
     refine qab (qfc (by omega)) ?_
     rintro⟨z18,n19⟩ hz18
     dsimp only at hz18
     have r18:=hz18.2 ⟨by omega,by omega,by omega⟩
     rw[if_pos r18] at hz18
     refine qa3 (fun((z27,_),((z28,_),_,(n29,n30,z31,b32,_),_),n33,n34,n35,_)=>d=z28∧(0:Int)=n29∧(0:Int)=n30∧qaP=z31∧false=b32∧n1=n33∧n4=n34∧n14=n35∧((z27.length:Int)=n14+1∧∀ x∈z27,x.length=64)) (fun J20 hJ20=>?_) ?_
     ·refine W_sm ?_
      refine W_rm (by omega) ?_
      refine qac fun z21 hz21=>?_
      have lz21:=congrArg List.length hz21;try simp at lz21
      refine W_rs (by omega) ?_
      exact hJ20.use _ (by dsimp only;exact⟨rfl,rfl,rfl,rfl,rfl,rfl,rfl,rfl,by omega,qdH hr5_2 hz21 (by rw[List.take_length];exact hz18.1)⟩)
     ·rintro⟨⟨z27,_⟩,⟨⟨z28,_⟩,_,⟨n29,n30,z31,b32,_⟩,_⟩,n33,n34,n35,_⟩ kJ20;dsimp only at kJ20
      obtain⟨rfl,rfl,rfl,rfl,rfl,rfl,rfl,rfl,kJ20⟩:=kJ20
      obtain⟨k5,k6⟩:=kJ20
      refine qah (by omega) fun n36 hn36=>?_
      refine W_rs rfl ?_
      exact ihr5.use _ ⟨_,_,rfl,by omega,by omega,k6⟩ (by dsimp only;omega)
    ·exact hJ3.use _ (by dsimp only;exact⟨rfl,rfl,rfl,rfl,rfl,rfl,by rw[List.take_length];omega,by rw[List.take_length];omega,by rw[List.take_length];exact hr5_2⟩)
   ·rintro⟨_,⟨⟨z37,_⟩,_,⟨n38,n39,z40,z41,b42,_⟩,_⟩,n43,_⟩ kJ3;dsimp only at kJ3
    obtain⟨rfl,rfl,rfl,rfl,rfl,rfl,kJ3⟩:=kJ3
    refine qab (qh2 (by omega) (by simp) (by omega)) ?_
    rintro⟨n44,n45,z46,z47,b48⟩ hn44
    dsimp only at hn44
    refine qa3 (fun(_,((z93,_),_,(n94,n95,z96,z97,b98,_),(n99,n100,z101,z102,b103,_),_),n104,_)=>d=z93∧n44=n94∧n45=n95∧z46=z96∧z47=z97∧b48=b98∧(0:Int)=n99∧(0:Int)=n100∧qaP=z101∧false=b103∧n1=n104∧((1≤z102.length∧z102.length≤32∧∀ x∈z102,x.length=64))) (fun J49 hJ49=>?_) ?_
    ·refine W_wi (by omega) fun n50 hn50=>?_
     refine qaj (fun v=>∃ z52 n65,v=((z52,()),((d,()),(),(n44,n45,z46,z47,b48,()),((0:Int),(0:Int),qaP,false,()),()),n1,n50,n65,())∧(0≤n65∧n65≤n50)∧((z52.length:Int)=n65)∧(∀ x∈z52,x.length=64)) (fun((z52,_),((_,_),_,(_,_,_,_,_,_),(_,_,_,_,_),_),_,_,n65,_)=>(n50-n65).toNat) ⟨_,_,rfl,by omega,by simp,by simp⟩ (by simp only[NN];omega) ?_
     rintro r51 _ ⟨z52,n65,rfl,hr51_0,hr51_1,hr51_2⟩ ihr51
     refine W_if (fun c9=>?_) fun c9=>?_
     ·refine W_wi (by omega) fun n66 hn66=>?_
      refine W_wi (by omega) fun n67 hn67=>?_
      refine W_wi (by omega) fun n68 hn68=>?_
      refine qab (qfc (by omega)) ?_
      rintro⟨z69,n70⟩ hz69
      dsimp only at hz69
      have r69:=hz69.2 ⟨by omega,by omega,by omega⟩
      rw[if_pos r69] at hz69
      refine qa3 (fun((z78,_),((z79,_),_,(n80,n81,z82,z83,b84,_),(n85,n86,z87,b88,_),_),n89,n90,n91,_)=>d=z79∧n44=n80∧n45=n81∧z46=z82∧z47=z83∧b48=b84∧(0:Int)=n85∧(0:Int)=n86∧qaP=z87∧false=b88∧n1=n89∧n50=n90∧n65=n91∧((z78.length:Int)=n65+1∧∀ x∈z78,x.length=64)) (fun J71 hJ71=>?_) ?_
      ·refine W_sm ?_
       refine W_rm (by omega) ?_
       refine qac fun z72 hz72=>?_
       have lz72:=congrArg List.length hz72;try simp at lz72
       refine W_rs (by omega) ?_
       exact hJ71.use _ (by dsimp only;exact⟨rfl,rfl,rfl,rfl,rfl,rfl,rfl,rfl,rfl,rfl,rfl,rfl,rfl,by omega,qdH hr51_2 hz72 (by rw[List.take_length];exact hz69.1)⟩)
      ·rintro⟨⟨z78,_⟩,⟨⟨z79,_⟩,_,⟨n80,n81,z82,z83,b84,_⟩,⟨n85,n86,z87,b88,_⟩,_⟩,n89,n90,n91,_⟩ kJ71;dsimp only at kJ71
       obtain⟨rfl,rfl,rfl,rfl,rfl,rfl,rfl,rfl,rfl,rfl,rfl,rfl,rfl,kJ71⟩:=kJ71
       obtain⟨k15,k16⟩:=kJ71
       refine qah (by omega) fun n92 hn92=>?_
       refine W_rs rfl ?_
       exact ihr51.use _ ⟨_,_,rfl,by omega,by omega,k16⟩ (by dsimp only;omega)
     ·exact hJ49.use _ (by dsimp only;exact⟨rfl,rfl,rfl,rfl,rfl,rfl,rfl,rfl,rfl,rfl,rfl,by rw[List.take_length];omega,by rw[List.take_length];omega,by rw[List.take_length];exact hr51_2⟩)
    ·rintro⟨_,⟨⟨z93,_⟩,_,⟨n94,n95,z96,z97,b98,_⟩,⟨n99,n100,z101,z102,b103,_⟩,_⟩,n104,_⟩ kJ49;dsimp only at kJ49
     obtain⟨rfl,rfl,rfl,rfl,rfl,rfl,rfl,rfl,rfl,rfl,rfl,kJ49⟩:=kJ49
     refine qab (qh2 (by omega) (by simp) (by omega)) ?_
     rintro⟨n105,n106,z107,z108,b109⟩ hn105
     dsimp only at hn105
     have w1:=hn105.2.2;subst w1
     refine W_if (fun c13=>?_) fun c13=>?_
     ·refine qaa ?_
      first|(simp;done)|(dsimp only;rw[List.take_length];exact⟨by omega,by assumption⟩)
     ·refine qab (qbH (by omega) (by omega) (by omega)) ?_
      rintro⟨z110,n111⟩ hz110
      dsimp only at hz110
      refine W_if (fun c14=>?_) fun c14=>?_
      ·refine qaa ?_
       first|(simp;done)|(dsimp only;rw[List.take_length];exact⟨by omega,by assumption⟩)
      ·refine qab (qqZ) ?_
       rintro⟨b112,n113,n114,z115,z116,b117,n118,n119,z120,z121,b122⟩ hb112
       dsimp only at hb112
       simp only[Prod.mk.injEq] at hb112;obtain⟨rfl,rfl,rfl,rfl,rfl,rfl,rfl,rfl,rfl,rfl⟩:=hb112
       refine W_if (fun c15=>?_) fun c15=>?_
       ·refine qab (qlQ kJ49.2 (by omega)) ?_
        rintro⟨n165,n166,n167,z168,z169,b170⟩ hn165
        dsimp only at hn165
        have w1:=hn44.2.2;subst w1
        refine W_if (fun c16=>?_) fun c16=>?_
        ·refine qaa ?_
         first|(simp;done)|(dsimp only;rw[List.take_length];exact⟨by omega,by assumption⟩)
        ·refine qab (qbH (by omega) (by omega) (by omega)) ?_
         rintro⟨z171,n172⟩ hz171
         dsimp only at hz171
         refine qaj (fun v=>∃ z174 n180,v=((z174,()),(),n172,(z47.length:Int),(1:Int),z171,(z171.length:Int),n180,())∧(0≤n180∧n180≤(z171.length:Int))∧((z174.length:Int)=n180)∧(∀ p∈z174,p.data.length=64)) (fun((z174,_),_,_,_,_,_,_,n180,_)=>((z171.length:Int)-n180).toNat) ⟨_,_,rfl,by omega,by simp,by simp⟩ (by simp only[NN];omega) ?_
         rintro r173 _ ⟨z174,n180,rfl,hr173_0,hr173_1,hr173_2⟩ ihr173
         refine W_if (fun c17=>?_) fun c17=>?_
         ·refine W_ix (by omega) fun z181 hz181=>?_
          refine W_wi (by omega) fun n182 hn182=>?_
          refine W_wi (by omega) fun n183 hn183=>?_
          refine W_rm (by omega) ?_
          refine qac fun z184 hz184=>?_
          have lz184:=congrArg List.length hz184;try simp at lz184
          refine qah (by omega) fun n185 hn185=>?_
          refine W_rs (by omega) ?_
          exact ihr173.use _ ⟨_,_,rfl,by omega,by omega,qdH hr173_2 hz184 (hz171.2 _ (hz181▸qb6 (by omega)))⟩ (by dsimp only;omega)
         ·refine qaa ?_
          first|(simp;done)|(dsimp only;rw[List.take_length];exact⟨by omega,by assumption⟩)
       ·refine W_if (fun c20=>?_) fun c20=>?_
        ·refine qab (qlQ (hn44.2.2▸kJ3.2) (by omega)) ?_
         rintro⟨n144,n145,n146,z147,z148,b149⟩ hn144
         dsimp only at hn144
         have w1:=hn44.2.2;subst w1
         refine W_if (fun c21=>?_) fun c21=>?_
         ·refine qaa ?_
          first|(simp;done)|(dsimp only;rw[List.take_length];exact⟨by omega,by assumption⟩)
         ·refine qab (qbH (by omega) (by omega) (by omega)) ?_
          rintro⟨z150,n151⟩ hz150
          dsimp only at hz150
          refine qaj (fun v=>∃ z153 n159,v=((z153,()),(),n151,(z47.length:Int),(0:Int),z150,(z150.length:Int),n159,())∧(0≤n159∧n159≤(z150.length:Int))∧((z153.length:Int)=n159)∧(∀ p∈z153,p.data.length=64)) (fun((z153,_),_,_,_,_,_,_,n159,_)=>((z150.length:Int)-n159).toNat) ⟨_,_,rfl,by omega,by simp,by simp⟩ (by simp only[NN];omega) ?_
          rintro r152 _ ⟨z153,n159,rfl,hr152_0,hr152_1,hr152_2⟩ ihr152
          refine W_if (fun c22=>?_) fun c22=>?_
          ·refine W_ix (by omega) fun z160 hz160=>?_
           refine W_wi (by omega) fun n161 hn161=>?_
           refine W_wi (by omega) fun n162 hn162=>?_
           refine W_rm (by omega) ?_
           refine qac fun z163 hz163=>?_
           have lz163:=congrArg List.length hz163;try simp at lz163
           refine qah (by omega) fun n164 hn164=>?_
           refine W_rs (by omega) ?_
           exact ihr152.use _ ⟨_,_,rfl,by omega,by omega,qdH hr152_2 hz163 (hz150.2 _ (hz160▸qb6 (by omega)))⟩ (by dsimp only;omega)
          ·refine qaa ?_
           first|(simp;done)|(dsimp only;rw[List.take_length];exact⟨by omega,by assumption⟩)
        ·refine qab (qlQ (hn44.2.2▸kJ3.2) (by omega)) ?_
         rintro⟨n123,n124,n125,z126,z127,b128⟩ hn123
         dsimp only at hn123
         have w1:=hn44.2.2;subst w1
         refine W_if (fun c25=>?_) fun c25=>?_
         ·refine qaa ?_
          first|(simp;done)|(dsimp only;rw[List.take_length];exact⟨by omega,by assumption⟩)
         ·refine qab (qbH (by omega) (by omega) (by omega)) ?_
          rintro⟨z129,n130⟩ hz129
          dsimp only at hz129
          refine qaj (fun v=>∃ z132 n138,v=((z132,()),(),n130,(z47.length:Int),(0:Int),z129,(z129.length:Int),n138,())∧(0≤n138∧n138≤(z129.length:Int))∧((z132.length:Int)=n138)∧(∀ p∈z132,p.data.length=64)) (fun((z132,_),_,_,_,_,_,_,n138,_)=>((z129.length:Int)-n138).toNat) ⟨_,_,rfl,by omega,by simp,by simp⟩ (by simp only[NN];omega) ?_
          rintro r131 _ ⟨z132,n138,rfl,hr131_0,hr131_1,hr131_2⟩ ihr131
          refine W_if (fun c26=>?_) fun c26=>?_
          ·refine W_ix (by omega) fun z139 hz139=>?_
           refine W_wi (by omega) fun n140 hn140=>?_
           refine W_wi (by omega) fun n141 hn141=>?_
           refine W_rm (by omega) ?_
           refine qac fun z142 hz142=>?_
           have lz142:=congrArg List.length hz142;try simp at lz142
           refine qah (by omega) fun n143 hn143=>?_
           refine W_rs (by omega) ?_
           exact ihr131.use _ ⟨_,_,rfl,by omega,by omega,qdH hr131_2 hz142 (hz129.2 _ (hz139▸qb6 (by omega)))⟩ (by dsimp only;omega)
          ·refine qaa ?_
           first|(simp;done)|(dsimp only;rw[List.take_length];exact⟨by omega,by assumption⟩)
end Go.Proofs.YtcdppfnjidlknaaGreatDoor
