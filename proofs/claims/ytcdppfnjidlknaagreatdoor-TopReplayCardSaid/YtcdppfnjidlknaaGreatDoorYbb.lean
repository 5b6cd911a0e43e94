import Derived.Test.YtcdppfnjidlknaaGreatDoorYba
set_option linter.unusedVariables false
set_option linter.unusedSimpArgs false
namespace Go.Proofs.YtcdppfnjidlknaaGreatDoor
open Go Go.Eng Go.Proofs Go.Wp
def SWf (s:SiteT):Prop:=∀ p∈s.phases,0≤p.groupsf∧p.groupsf<4294967296
def SSm (s:SiteT):Prop:=(s.groups.length≤40∧s.apart.length≤40∧s.between.length≤40∧s.phases.length≤40∧s.eyes.length≤60∧s.plans.length≤40)∧(∀ x∈s.between,x.length≤40)∧∀ p∈s.plans,p.splits.length≤40
def Tk (n:Int):Prop:=1≤n∧n≤1048576
def PhOk (s:SiteT)(p:Phs):Prop:=(0<p.groupsf∧p.groupsf<4294967296∧p.groupsf<2 ^ s.groups.length)∧Tk p.minf∧Tk p.maxf∧Tk p.gapf
def qfq (s:SiteT):Prop:=(1≤s.groups.length∧s.groups.length≤16∧s.apart.length=s.groups.length∧s.between.length=s.groups.length∧1≤s.phases.length∧s.phases.length≤8∧s.eyes.length≤24∧s.plans.length≤8)∧∀ x∈s.between,x.length=s.groups.length
def SApart (s:SiteT):Prop:=(∀ g∈s.groups,Tk g.minf∧Tk g.yellowf)∧FA (fun a=>FA (q0i s a) s.groups.length) s.groups.length
def SPh (s:SiteT):Prop:=∀ p∈s.phases,PhOk s p
def SEyes (s:SiteT):Prop:=∀ e∈s.eyes,(0≤e.phasef∧e.phasef<s.phases.length)∧Tk e.onf∧Tk e.offf∧1≤e.turnsf∧e.turnsf≤64
def STimes (s:SiteT):Prop:=Tk s.watch∧Tk s.feed∧Tk s.heal∧Tk s.low∧Tk s.high∧s.low≤s.high
structure SOk (s:SiteT):Prop where
  shape:qfq s
  apart:SApart s
  ph:SPh s
  eyes:SEyes s
  times:STimes s
theorem qaT {x:Int}{from0:Int}{to:Int}:W (qcv x from0 to) (fun r=>r=true↔from0≤x∧x≤to):=by
 unfold qcv q0N
 refine qaa ?_
 cases h1:decide (from0≤x)<;>simp at h1 ⊢<;>omega
theorem qdc {l:List Int}(p0:l.length≤1000):W (qcR l) (fun r=>r=true→∀ x∈l,Tk x):=by
 unfold qcR qlh
 refine qaj (fun v=>∃ n4,v=((),(),l,(l.length:Int),n4,())∧(0≤n4∧n4≤(l.length:Int))∧(Upto Tk l 0 n4)) (fun(_,_,_,_,n4,_)=>((l.length:Int)-n4).toNat) ⟨_,rfl,by omega,Upto.zero⟩ (by simp only[NN];omega) ?_
 rintro r1 _ ⟨n4,rfl,hr1_0,hr1_1⟩ ihr1
 refine W_if (fun c1=>?_) fun c1=>?_
 ·refine W_ix (by omega) fun n5 hn5=>?_
  refine qab (qaT) ?_
  rintro b6 hb6
  refine W_if (fun c2=>?_) fun c2=>?_
  ·refine qaa ?_
   simp
  ·refine qah (by omega) fun n7 hn7=>?_
   exact ihr1.use _ ⟨_,rfl,by omega,hr1_1.succ (by omega) hn7 (by rw[← hn5];rw[hb6] at c2;unfold Tk;omega)⟩ (by dsimp only;omega)
 ·refine qaa ?_
  intro _;exact hr1_1.all (by omega)
theorem q2c {s:SiteT}(p0:SSm s):W (qp8 s) (fun r=>r=true→qfq s):=by
 unfold qp8 qlg
 obtain⟨⟨s1,s2,s3,s4,s5,s6⟩,-,-⟩:=p0
 refine qab (qaT) ?_
 rintro b1 hb1
 refine W_if (fun c1=>?_) fun c1=>?_
 ·refine qaa ?_
  simp
 ·refine qab (qaT) ?_
  rintro b2 hb2
  refine W_if (fun c2=>?_) fun c2=>?_
  ·refine qaa ?_
   simp
  ·refine qaj (fun v=>∃ n8,v=((),((s,()),()),(s.groups.length:Int),s.between,(s.between.length:Int),n8,())∧(0≤n8∧n8≤(s.between.length:Int))∧(Upto (fun x:List Int=>x.length=s.groups.length) s.between (dflt 7) n8)) (fun(_,((_,_),_),_,_,_,n8,_)=>((s.between.length:Int)-n8).toNat) ⟨_,rfl,by omega,Upto.zero⟩ (by simp only[NN];omega) ?_
   rintro r3 _ ⟨n8,rfl,hr3_0,hr3_1⟩ ihr3
   refine W_if (fun c3=>?_) fun c3=>?_
   ·refine W_ix (by omega) fun z9 hz9=>?_
    refine qaf (by omega) ?_
    refine qac fun x10 hx10=>?_
    refine qaf (by omega) ?_
    refine qac fun n11 hn11=>?_
    refine W_if (fun c6=>?_) fun c6=>?_
    ·refine qaa ?_
     simp
    ·refine qah (by omega) fun n12 hn12=>?_
     exact ihr3.use _ ⟨_,rfl,by omega,hr3_1.succ (by omega) hn12 (by rw[← hz9];omega)⟩ (by dsimp only;omega)
   ·refine qaa ?_
    intro _;rw[hb1] at c1;rw[hb2] at c2;exact⟨by omega,hr3_1.all (by omega)⟩
theorem qqQ {i:Int}:W (qoJ i) (fun r=>r=bitN i):=by
 unfold qoJ qve
 refine W_if (fun c1=>?_) fun c1=>?_
 ·refine qaa ?_
  unfold bitN;rw[if_neg (by omega)]
 ·refine qaf (by omega) ?_
  refine W_wq (shl_lt (by omega)) fun n1 hn1=>?_
  refine qaa ?_
  unfold bitN;rw[if_pos (by omega),hn1,shl_eq (by omega)]
theorem qkq {s:Int}{i:Int}(p0:0≤s∧s<4294967296):W (qli s i) (fun r=>r=(decide (0≤i)&&decide (i≤31)&&hb s i)):=by
 unfold qli qvC
 refine qab (qqQ) ?_
 rintro n1 hn1
 refine qac fun n2 hn2=>?_
 refine qaa ?_
 rw[hn2,hn1,has_eq p0]
theorem qeZ {s:Int}{i:Int}:W (qcS s i) (fun r=>r=bits BinOp.andNot IntKind.u32 s (bitN i)):=by
 unfold qcS qfJ
 refine qab (qqQ) ?_
 rintro n1 hn1
 refine qac fun n2 hn2=>?_
 refine qaa ?_
 rw[hn2,hn1]
theorem qud {s:Int}{i:Int}:W (qn5 s i) (fun r=>0≤r∧r<4294967296):=by
 unfold qn5 qpL
 refine qab (qqQ) ?_
 rintro n1 hn1
 refine qac fun n2 hn2=>?_
 refine qaa ?_
 rw[hn2];exact q0h ..
theorem qgb {x:Int}(p0:0≤x∧x<4294967296):W (qax x) (fun r=>r=(Lib.ctz 32 x.toNat:Nat)):=by
 unfold qax
 exact qaf p0.1 (qaf p0.2 (qaa rfl))
theorem qqR {s:Int}(p0:0≤s∧s<4294967296):W (qjy s) (fun r=>s≠0→(0≤r∧r≤31)∧hb s r=true):=by
 unfold qjy qlj
 refine W_if (fun c1=>?_) fun c1=>?_
 ·refine qaa ?_
  intro h;exact absurd c1 h
 ·refine qab (qgb (by omega)) ?_
  rintro n1 hn1
  refine qaa ?_
  intro h;obtain⟨g1,g2⟩:=ctz_bit (s:=s.toNat) (by omega) (by omega);subst hn1;exact⟨by omega,by unfold hb;rw[Int.toNat_natCast];exact g1⟩
theorem qlP {x:Int}(p0:0≤x∧x<4294967296):W (qcP x) (fun r=>True):=by
 unfold qcP qcr
 have ts:tab0.size=256:=by kernel_rfl
 refine qac fun n1 hn1=>?_
 have g:=fdiv_24 p0
 refine qaf (by omega) ?_
 refine qaf (by omega) ?_
 refine qac fun n2 hn2=>?_
 refine qac fun n3 hn3=>?_
 refine qac fun n4 hn4=>?_
 have g4:=q2C n3
 refine qaf (by omega) ?_
 refine qaf (by omega) ?_
 refine qac fun n5 hn5=>?_
 refine qac fun n6 hn6=>?_
 refine qac fun n7 hn7=>?_
 refine qac fun n8 hn8=>?_
 have g8:=q2C n7
 refine qaf (by omega) ?_
 refine qaf (by omega) ?_
 refine qac fun n9 hn9=>?_
 refine qac fun n10 hn10=>?_
 refine qac fun n11 hn11=>?_
 have g11:=q2C x
 refine qaf (by omega) ?_
 refine qaf (by omega) ?_
 refine qac fun n12 hn12=>?_
 refine qac fun n13 hn13=>?_
 refine qac fun n14 hn14=>?_
 refine qaa ?_
 first|omega|simp|trivial
theorem q2d {s:Int}(p0:0≤s∧s<4294967296):W (qp9 s) (fun r=>True):=by
 unfold qp9 qlk
 refine qab (qlP (by omega)) ?_
 rintro n1 hn1
 refine qaa ?_
 first|omega|simp|trivial
theorem q2e {s:SiteT}(p0:qfq s):W (qpW s) (fun r=>r=true→(∀ g∈s.groups,Tk g.minf∧Tk g.yellowf)∧FA (fun a=>FA (q0i s a) s.groups.length) s.groups.length):=by
 unfold qpW qlx
 obtain⟨⟨s1,s2,s3,s4,s5,s6,s7,s8⟩,s9⟩:=p0
 refine qaj (fun v=>∃ n5,v=((),((s,()),()),s.groups,(s.groups.length:Int),n5,())∧(0≤n5∧n5≤(s.groups.length:Int))∧(Upto (fun g:Grp=>Tk g.minf∧Tk g.yellowf) s.groups (dflt 17) n5)∧(FA (fun a=>FA (q0i s a) s.groups.length) n5)) (fun(_,((_,_),_),_,_,n5,_)=>((s.groups.length:Int)-n5).toNat) ⟨_,rfl,by omega,Upto.zero,FA.zero⟩ (by simp only[NN];omega) ?_
 rintro r1 _ ⟨n5,rfl,hr1_0,hr1_1,hr1_2⟩ ihr1
 refine W_if (fun c1=>?_) fun c1=>?_
 ·refine W_ix (by omega) fun x6 hx6=>?_
  refine W_if (fun c2=>?_) fun c2=>?_
  ·refine qaa ?_
   simp
  ·refine qab (qdc (by simp)) ?_
   rintro b7 hb7
   have t1:=fun h=>hb7 h x6.minf (by simp)
   have t2:=fun h=>hb7 h x6.yellowf (by simp)
   refine W_if (fun c3=>?_) fun c3=>?_
   ·refine qaa ?_
    simp
   ·refine W_ix (by omega) fun z8 hz8=>?_
    have lz:=qaq (d:=dflt 7) s9 (n:=n5) (by omega)
    rw[← hz8] at lz
    refine qaj (fun v=>∃ n18,v=((),((s,()),(x6,()),()),n5,s.groups,(s.groups.length:Int),n5,z8,(z8.length:Int),n18,())∧(0≤n18∧n18≤(z8.length:Int))∧(FA (q0i s n5.toNat) n18)) (fun(_,((_,_),(_,_),_),_,_,_,_,_,_,n18,_)=>((z8.length:Int)-n18).toNat) ⟨_,rfl,by omega,FA.zero⟩ (by simp only[NN];omega) ?_
    rintro r9 _ ⟨n18,rfl,hr9_0,hr9_1⟩ ihr9
    refine W_if (fun c4=>?_) fun c4=>?_
    ·refine W_ix (by omega) fun n20 hn20=>?_
     refine W_ix (by omega) fun x21 hx21=>?_
     refine qab (qkq (qdd _)) ?_
     rintro b22 hb22
     refine W_ix (by omega) fun x23 hx23=>?_
     refine qab (qkq (qdd _)) ?_
     rintro b24 hb24
     refine W_if (fun c5=>?_) fun c5=>?_
     ·refine W_if (fun c6=>?_) fun c6=>?_
      ·refine qaa ?_
       simp
      ·refine qah (by omega) fun n30 hn30=>?_
       exact ihr9.use _ ⟨_,rfl,by omega,by contradiction⟩ (by dsimp only;omega)
     ·refine W_if (fun c7=>?_) fun c7=>?_
      ·refine W_if (fun c8=>?_) fun c8=>?_
       ·refine qaa ?_
        simp
       ·refine qah (by omega) fun n29 hn29=>?_
        exact ihr9.use _ ⟨_,rfl,by omega,by contradiction⟩ (by dsimp only;omega)
      ·refine W_if (fun c9=>?_) fun c9=>?_
       ·refine qab (qaT) ?_
        rintro b26 hb26
        refine W_if (fun c10=>?_) fun c10=>?_
        ·refine W_if (fun c11=>?_) fun c11=>?_
         ·refine qaa ?_
          simp
         ·refine qah (by omega) fun n28 hn28=>?_
          exact ihr9.use _ ⟨_,rfl,by omega,by contradiction⟩ (by dsimp only;omega)
        ·refine W_if (fun c12=>?_) fun c12=>?_
         ·refine qaa ?_
          simp
         ·refine qah (by omega) fun n27 hn27=>?_
          exact ihr9.use _ ⟨_,rfl,by omega,hr9_1.succ (by omega) hn27 (q8x (by omega) (by omega) (hx21▸hb22) (hx23▸hb24) (hz8▸hn20) (by assumption) (fun h=>⟨fun e=>absurd (And.intro h e) (by assumption),by rw[← hx6];exact hb26.1 (Classical.not_not.1 (by assumption))⟩) (fun h=>by contradiction))⟩ (by dsimp only;omega)
       ·refine W_if (fun c13=>?_) fun c13=>?_
        ·refine qaa ?_
         simp
        ·refine qah (by omega) fun n25 hn25=>?_
         exact ihr9.use _ ⟨_,rfl,by omega,hr9_1.succ (by omega) hn25 (q8x (by omega) (by omega) (hx21▸hb22) (hx23▸hb24) (hz8▸hn20) (by assumption) (fun h=>by contradiction) (fun h=>Classical.byContradiction fun g=>absurd (And.intro h g) (by assumption)))⟩ (by dsimp only;omega)
    ·refine qah (by omega) fun n19 hn19=>?_
     exact ihr1.use _ ⟨_,rfl,by omega,hr1_1.succ (by omega) hn19 (by rw[← hx6];exact⟨t1 (Classical.not_not.1 c3),t2 (Classical.not_not.1 c3)⟩),hr1_2.succ (by omega) hn19 (fun k hk=>hr9_1 k (by omega))⟩ (by dsimp only;omega)
 ·refine qaa ?_
  intro _;exact⟨hr1_1.all (by omega),fun k hk=>hr1_2 k (by omega)⟩
theorem qmM {s:SiteT}{from0:Int}{to:Int}(p0:qfq s∧SWf s)(p1:(0≤from0∧from0<s.phases.length)∧0≤to∧to<s.phases.length)(p2:∀ p∈s.phases,p.groupsf<2 ^ s.groups.length):W (qgS s from0 to) (fun r=>0≤r):=by
 unfold qgS qir
 obtain⟨⟨⟨s1,s2,s3,s4,s5,s6,s7,s8⟩,s9⟩,s10⟩:=p0
 refine qaj (fun v=>∃ n5 n7,v=((),((s,()),()),from0,to,n5,(s.groups.length:Int),n7,())∧(0≤n7∧n7≤(s.groups.length:Int))∧(0≤n5)) (fun(_,((_,_),_),_,_,n5,_,n7,_)=>((s.groups.length:Int)-n7).toNat) ⟨_,_,rfl,by omega,by omega⟩ (by simp only[NN];omega) ?_
 rintro r1 _ ⟨n5,n7,rfl,hr1_0,hr1_1⟩ ihr1
 refine W_if (fun c1=>?_) fun c1=>?_
 ·refine W_ix (by omega) fun x8 hx8=>?_
  have gx8:=qaq (d:=dflt 18) s10 (n:=from0) (by omega)
  rw[← hx8] at gx8
  refine qab (qkq gx8) ?_
  rintro b9 hb9
  refine W_if (fun c2=>?_) fun c2=>?_
  ·refine qah (by omega) fun n28 hn28=>?_
   exact ihr1.use _ ⟨_,_,rfl,by omega,by omega⟩ (by dsimp only;omega)
  ·refine W_ix (by omega) fun x10 hx10=>?_
   refine W_ix (by omega) fun x11 hx11=>?_
   have gx11:=qaq (d:=dflt 18) s10 (n:=to) (by omega)
   have gy11:=qaq (d:=dflt 18) p2 (n:=to) (by omega)
   rw[← hx11] at gx11 gy11
   refine qac fun n12 hn12=>?_
   have g12:=and_sub (x:=x10.toNat) (qdd x10) gx11 gy11
   rw[← hn12] at g12
   refine qaj (fun v=>∃ n17 n19,v=((),((s,()),()),from0,to,n17,n7,n19,(s.groups.length:Int),n7,())∧(0≤n17)∧(0≤n19∧n19<4294967296)∧(n19<2 ^ s.groups.length)) (fun(_,((_,_),_),_,_,n17,_,n19,_,_,_)=>n19.toNat) ⟨_,_,rfl,hr1_1,by omega,g12.2⟩ (by simp only[NN];omega) ?_
   rintro r13 _ ⟨n17,n19,rfl,hr13_0,hr13_1,hr13_2⟩ ihr13
   refine W_if (fun c3=>?_) fun c3=>?_
   ·refine qab (qqR (by omega)) ?_
    rintro n23 hn23
    obtain⟨g23,k23⟩:=hn23 (by omega)
    have l23:=hb_lt hr13_2 k23
    refine qab (qeZ) ?_
    rintro n24 hn24
    obtain⟨q,e24,t24⟩:=quv (s:=n19) (i:=n23) (by omega) g23
    have d24:=quw k23 t24
    have e24:=hn24.trans e24
    refine W_ix (by omega) fun z25 hz25=>?_
    have lz:=qaq (d:=dflt 7) s9 (n:=n7) (by omega)
    rw[← hz25] at lz
    refine W_ix (by omega) fun n26 hn26=>?_
    refine qac fun n27 hn27=>?_
    exact ihr13.use _ ⟨_,_,rfl,by omega,by omega,by omega⟩ (by dsimp only;omega)
   ·refine qah (by omega) fun n22 hn22=>?_
    exact ihr1.use _ ⟨_,_,rfl,by omega,by omega⟩ (by dsimp only;omega)
 ·refine qaa ?_
  first|omega|simp|trivial
theorem qqS {s:SiteT}{i:Int}(p0:qfq s∧SWf s)(p1:0≤i∧i<s.phases.length)(p2:∀ p∈s.phases,p.groupsf<2 ^ s.groups.length):W (qjP s i) (fun r=>True):=by
 unfold qjP ql0
 obtain⟨⟨s1,s2,s3,s4,s5,s6,s7,s8⟩,s9⟩:=p0.1
 refine W_ix (by omega) fun x1 hx1=>?_
 refine qah (by omega) fun n2 hn2=>?_
 refine qaf (by omega) ?_
 refine qac fun n3 hn3=>?_
 have g3:=q2D (a:=n2) (b:=s.phases.length) (by omega) (by omega)
 rw[← hn3] at g3
 refine qab (qmM p0 ⟨p1,g3⟩ p2) ?_
 rintro n4 hn4
 refine qac fun n5 hn5=>?_
 refine qaa ?_
 first|omega|simp|trivial
theorem qzH {s:SiteT}(p0:qfq s∧SWf s):W (qly s) (fun r=>r=true→∀ p∈s.phases,PhOk s p):=by
 unfold qly qiq
 obtain⟨⟨⟨s1,s2,s3,s4,s5,s6,s7,s8⟩,s9⟩,s10⟩:=p0
 refine qaj (fun v=>∃ n3 n6,v=((),((s,()),()),n3,s.phases,(s.phases.length:Int),n6,())∧(0≤n6∧n6≤(s.phases.length:Int))∧(0≤n3∧n3<4294967296)∧(Upto (PhOk s) s.phases (dflt 18) n6)) (fun(_,((_,_),_),n3,_,_,n6,_)=>((s.phases.length:Int)-n6).toNat) ⟨_,_,rfl,by omega,by omega,Upto.zero⟩ (by simp only[NN];omega) ?_
 rintro r1 _ ⟨n3,n6,rfl,hr1_0,hr1_1,hr1_2⟩ ihr1
 refine W_if (fun c1=>?_) fun c1=>?_
 ·refine W_ix (by omega) fun x8 hx8=>?_
  have gx8:=qaq (d:=dflt 18) s10 (n:=n6) (by omega)
  rw[← hx8] at gx8
  refine qaf (by omega) ?_
  refine qac fun n9 hn9=>?_
  refine W_if (fun c3=>?_) fun c3=>?_
  ·refine qaa ?_
   simp
  ·refine qab (qdc (by simp)) ?_
   rintro b10 hb10
   have t1:=fun h=>hb10 h x8.minf (by simp)
   have t2:=fun h=>hb10 h x8.maxf (by simp)
   have t3:=fun h=>hb10 h x8.gapf (by simp)
   have d9:=fdiv_0 gx8 (n:=s.groups.length) (by omega) (by rw[← hn9];omega)
   refine W_if (fun c4=>?_) fun c4=>?_
   ·refine qaa ?_
    simp
   ·refine qac fun n11 hn11=>?_
    have g11:=q0h .or n3 x8.groupsf
    rw[← hn11] at g11
    refine qaj (fun v=>∃ n16,v=((),((s,()),(x8,()),()),n11,n16,s.phases,(s.phases.length:Int),n6,())∧(0≤n16∧n16<4294967296)∧(n16<2 ^ s.groups.length)) (fun(_,((_,_),(_,_),_),_,n16,_,_,_,_)=>n16.toNat) ⟨_,rfl,gx8,d9⟩ (by simp only[NN];omega) ?_
    rintro r12 _ ⟨n16,rfl,hr12_0,hr12_1⟩ ihr12
    refine W_if (fun c5=>?_) fun c5=>?_
    ·refine qab (qqR (by omega)) ?_
     rintro n21 hn21
     obtain⟨g21,k21⟩:=hn21 (by omega)
     have l21:=hb_lt hr12_1 k21
     refine qab (qeZ) ?_
     rintro n22 hn22
     obtain⟨q,e22,t22⟩:=quv (s:=n16) (i:=n21) (by omega) g21
     have d22:=quw k21 t22
     have e22:=hn22.trans e22
     refine W_ix (by omega) fun x23 hx23=>?_
     refine qaf (by omega) ?_
     refine qac fun x24 hx24=>?_
     refine qac fun n25 hn25=>?_
     refine W_if (fun c7=>?_) fun c7=>?_
     ·refine qaa ?_
      simp
     ·exact ihr12.use _ ⟨_,rfl,by omega,by omega⟩ (by dsimp only;omega)
    ·refine qah (by omega) fun n20 hn20=>?_
     exact ihr1.use _ ⟨_,_,rfl,by omega,by omega,hr1_2.succ (by omega) hn20 (by rw[← hx8];exact⟨⟨by omega,gx8.2,d9⟩,t1 (Classical.not_not.1 fun h=>c4 (.inl h)),t2 (Classical.not_not.1 fun h=>c4 (.inl h)),t3 (Classical.not_not.1 fun h=>c4 (.inl h))⟩)⟩ (by dsimp only;omega)
 ·refine qab (q2d (by omega)) ?_
  rintro n7 hn7
  refine qaa ?_
  intro _;exact hr1_2.all (by omega)
theorem q57 {s:SiteT}(p0:qfq s):W (qvS s) (fun r=>r=true→∀ e∈s.eyes,(0≤e.phasef∧e.phasef<s.phases.length)∧Tk e.onf∧Tk e.offf∧1≤e.turnsf∧e.turnsf≤64):=by
 unfold qvS qpZ
 obtain⟨⟨s1,s2,s3,s4,s5,s6,s7,s8⟩,s9⟩:=p0
 refine qaj (fun v=>∃ n5,v=((),((s,()),()),s.eyes,(s.eyes.length:Int),n5,())∧(0≤n5∧n5≤(s.eyes.length:Int))∧(Upto (fun e:EyeT=>(0≤e.phasef∧e.phasef<s.phases.length)∧Tk e.onf∧Tk e.offf∧1≤e.turnsf∧e.turnsf≤64) s.eyes (dflt 19) n5)) (fun(_,((_,_),_),_,_,n5,_)=>((s.eyes.length:Int)-n5).toNat) ⟨_,rfl,by omega,Upto.zero⟩ (by simp only[NN];omega) ?_
 rintro r1 _ ⟨n5,rfl,hr1_0,hr1_1⟩ ihr1
 refine W_if (fun c1=>?_) fun c1=>?_
 ·refine W_ix (by omega) fun x6 hx6=>?_
  refine W_wi (by omega) fun n7 hn7=>?_
  refine qab (qaT) ?_
  rintro b8 hb8
  refine W_if (fun c2=>?_) fun c2=>?_
  ·refine qaa ?_
   simp
  ·refine qab (qdc (by simp)) ?_
   rintro b9 hb9
   have t1:=fun h=>hb9 h x6.onf (by simp)
   have t2:=fun h=>hb9 h x6.offf (by simp)
   refine W_if (fun c3=>?_) fun c3=>?_
   ·refine qaa ?_
    simp
   ·refine qab (qaT) ?_
    rintro b10 hb10
    refine W_if (fun c4=>?_) fun c4=>?_
    ·refine qaa ?_
     simp
    ·refine qah (by omega) fun n11 hn11=>?_
     exact ihr1.use _ ⟨_,rfl,by omega,hr1_1.succ (by omega) hn11 (by rw[← hx6];have g1:=hb8.1 (Classical.not_not.1 c2);have g2:=hb10.1 (Classical.not_not.1 c4);exact⟨by omega,t1 (Classical.not_not.1 c3),t2 (Classical.not_not.1 c3),g2⟩)⟩ (by dsimp only;omega)
 ·refine qaa ?_
  intro _;exact hr1_1.all (by omega)
theorem q2f {s:SiteT}(p0:qfq s∧SWf s)(p1:∀ p∈s.phases,p.groupsf<2 ^ s.groups.length):W (qqu s) (fun r=>r=true→Tk s.watch∧Tk s.feed∧Tk s.heal∧Tk s.low∧Tk s.high∧s.low≤s.high):=by
 unfold qqu ql9
 obtain⟨⟨s1,s2,s3,s4,s5,s6,s7,s8⟩,s9⟩:=p0.1
 refine qaj (fun v=>∃ n3 n5,v=((),((s,()),()),n3,(s.phases.length:Int),n5,())∧(0≤n5∧n5≤(s.phases.length:Int))) (fun(_,((_,_),_),n3,_,n5,_)=>((s.phases.length:Int)-n5).toNat) ⟨_,_,rfl,by omega⟩ (by simp only[NN];omega) ?_
 rintro r1 _ ⟨n3,n5,rfl,hr1_0⟩ ihr1
 refine W_if (fun c1=>?_) fun c1=>?_
 ·refine qab (qqS p0 (by omega) p1) ?_
  rintro n7 hn7
  refine qac fun n8 hn8=>?_
  refine qah (by omega) fun n9 hn9=>?_
  exact ihr1.use _ ⟨_,_,rfl,by omega⟩ (by dsimp only;omega)
 ·refine qab (qdc (by simp)) ?_
  rintro b6 hb6
  refine qaa ?_
  intro h;simp only[Bool.cond_false_right,Bool.and_eq_true,decide_eq_true_eq] at h;obtain⟨⟨h1,h2⟩,h3⟩:=h;have g:=hb6 h1;exact⟨g _ (by simp),g _ (by simp),g _ (by simp),g _ (by simp),g _ (by simp),h3⟩
theorem que {s:SiteT}{p:Plan}(p0:qfq s∧SWf s)(p1:∀ p∈s.phases,p.groupsf<2 ^ s.groups.length)(p2:p.splits.length≤1000000):W (qnH s p) (fun r=>r=true→p.splits.length=s.phases.length∧s.low≤p.cycle∧p.cycle≤s.high):=by
 unfold qnH qqv
 obtain⟨⟨s1,s2,s3,s4,s5,s6,s7,s8⟩,s9⟩:=p0.1
 refine qab (qaT) ?_
 rintro b1 hb1
 refine qac fun n2 hn2=>?_
 refine W_if (fun c1=>?_) fun c1=>?_
 ·refine qaa ?_
  simp
 ·refine qab (qaT) ?_
  rintro b3 hb3
  refine W_if (fun c2=>?_) fun c2=>?_
  ·refine qaa ?_
   simp
  ·refine qaj (fun v=>∃ n6 n9,v=((),((s,()),()),n6,p.splits,(p.splits.length:Int),n9,())∧(0≤n9∧n9≤(p.splits.length:Int))) (fun(_,((_,_),_),n6,_,_,n9,_)=>((p.splits.length:Int)-n9).toNat) ⟨_,_,rfl,by omega⟩ (by simp only[NN];omega) ?_
   rintro r4 _ ⟨n6,n9,rfl,hr4_0⟩ ihr4
   refine W_if (fun c3=>?_) fun c3=>?_
   ·refine W_ix (by omega) fun n10 hn10=>?_
    refine qab (qqS p0 (by omega) p1) ?_
    rintro n11 hn11
    refine qab (qaT) ?_
    rintro b12 hb12
    refine W_if (fun c4=>?_) fun c4=>?_
    ·refine qaa ?_
     simp
    ·refine qac fun n13 hn13=>?_
     refine qah (by omega) fun n14 hn14=>?_
     exact ihr4.use _ ⟨_,_,rfl,by omega⟩ (by dsimp only;omega)
   ·refine qaa ?_
    intro _;have g:=hb1.1 (Classical.not_not.1 c1);omega
theorem qwx {s:SiteT}(p0:qfq s∧SWf s)(p1:∀ p∈s.phases,p.groupsf<2 ^ s.groups.length)(p2:∀ p∈s.plans,p.splits.length≤1000000):W (qi3 s) (fun r=>True):=by
 unfold qi3 qfR
 obtain⟨⟨s1,s2,s3,s4,s5,s6,s7,s8⟩,s9⟩:=p0.1
 refine qaj (fun v=>∃ n5,v=((),((s,()),()),s.plans,(s.plans.length:Int),n5,())∧(0≤n5∧n5≤(s.plans.length:Int))) (fun(_,((_,_),_),_,_,n5,_)=>((s.plans.length:Int)-n5).toNat) ⟨_,rfl,by omega⟩ (by simp only[NN];omega) ?_
 rintro r1 _ ⟨n5,rfl,hr1_0⟩ ihr1
 refine W_if (fun c1=>?_) fun c1=>?_
 ·refine W_ix (by omega) fun x6 hx6=>?_
  refine qab (que p0 p1 (hx6▸qaq p2 (by omega))) ?_
  rintro b7 hb7
  refine W_if (fun c2=>?_) fun c2=>?_
  ·refine qaa ?_
   first|omega|simp|trivial
  ·refine qah (by omega) fun n8 hn8=>?_
   exact ihr1.use _ ⟨_,rfl,by omega⟩ (by dsimp only;omega)
 ·refine qaa ?_
  first|omega|simp|trivial
theorem q2g {s:SiteT}(p0:SWf s)(p1:SSm s):W (qa4 s) (fun e=>e=0→SOk s):=by
 unfold qa4 qlE
 refine qaj (fun v=>∃ b3 n4,v=((),((s,()),()),b3,n4,())∧(0≤n4∧n4≤6)∧(b3=false)∧(1≤n4→qfq s)∧(2≤n4→SApart s)∧(3≤n4→SPh s)∧(4≤n4→SEyes s)∧(5≤n4→STimes s)) (fun(_,((_,_),_),b3,n4,_)=>(6-n4).toNat) ⟨_,_,rfl,by omega,rfl,fun h=>by omega,fun h=>by omega,fun h=>by omega,fun h=>by omega,fun h=>by omega⟩ (by simp only[NN];omega) ?_
 rintro r1 _ ⟨b3,n4,rfl,hr1_0,hr1_1,hr1_2,hr1_3,hr1_4,hr1_5,hr1_6⟩ ihr1
 refine W_if (fun c1=>?_) fun c1=>?_
 ·refine W_if (fun c2=>?_) fun c2=>?_
  ·refine qab (qaT) ?_
   rintro b16 hb16
   refine W_if (fun c3=>?_) fun c3=>?_
   ·refine qaa ?_
    first|(intro h;cases h;done)|contradiction|(intro h;exact absurd h (by omega))|(intro _;exact⟨hr1_2 (by omega),hr1_3 (by omega),hr1_4 (by omega),hr1_5 (by omega),hr1_6 (by omega)⟩)|(subst hr1_1;contradiction)
   ·refine qab (q2c p1) ?_
    rintro b17 hb17
    refine W_if (fun c4=>?_) fun c4=>?_
    ·refine W_if (fun c5=>?_) fun c5=>?_
     ·refine qaa ?_
      first|(intro h;cases h;done)|contradiction|(intro h;exact absurd h (by omega))|(intro _;exact⟨hr1_2 (by omega),hr1_3 (by omega),hr1_4 (by omega),hr1_5 (by omega),hr1_6 (by omega)⟩)|(subst hr1_1;contradiction)
     ·refine qaa ?_
      first|(intro h;cases h;done)|contradiction|(intro h;exact absurd h (by omega))|(intro _;exact⟨hr1_2 (by omega),hr1_3 (by omega),hr1_4 (by omega),hr1_5 (by omega),hr1_6 (by omega)⟩)|(subst hr1_1;contradiction)
    ·refine qah (by omega) fun n18 hn18=>?_
     exact ihr1.use _ ⟨_,_,rfl,by omega,by rw[show b17=true from Classical.not_not.1 (by assumption)];rfl,fun _=>hb17 (Classical.not_not.1 (by assumption)),fun h=>by omega,fun h=>by omega,fun h=>by omega,fun h=>by omega⟩ (by dsimp only;omega)
  ·refine W_if (fun c6=>?_) fun c6=>?_
   ·refine qab (q2e (hr1_2 (by omega))) ?_
    rintro b14 hb14
    refine W_if (fun c7=>?_) fun c7=>?_
    ·refine W_if (fun c8=>?_) fun c8=>?_
     ·refine qaa ?_
      first|(intro h;cases h;done)|contradiction|(intro h;exact absurd h (by omega))|(intro _;exact⟨hr1_2 (by omega),hr1_3 (by omega),hr1_4 (by omega),hr1_5 (by omega),hr1_6 (by omega)⟩)|(subst hr1_1;contradiction)
     ·refine qaa ?_
      first|(intro h;cases h;done)|contradiction|(intro h;exact absurd h (by omega))|(intro _;exact⟨hr1_2 (by omega),hr1_3 (by omega),hr1_4 (by omega),hr1_5 (by omega),hr1_6 (by omega)⟩)|(subst hr1_1;contradiction)
    ·refine qah (by omega) fun n15 hn15=>?_
     exact ihr1.use _ ⟨_,_,rfl,by omega,by rw[show b14=true from Classical.not_not.1 (by assumption)];rfl,fun _=>hr1_2 (by omega),fun _=>hb14 (Classical.not_not.1 (by assumption)),fun h=>by omega,fun h=>by omega,fun h=>by omega⟩ (by dsimp only;omega)
   ·refine W_if (fun c9=>?_) fun c9=>?_
    ·refine qab (qzH ⟨(hr1_2 (by omega)),p0⟩) ?_
     rintro b12 hb12
     refine W_if (fun c10=>?_) fun c10=>?_
     ·refine W_if (fun c11=>?_) fun c11=>?_
      ·refine qaa ?_
       first|(intro h;cases h;done)|contradiction|(intro h;exact absurd h (by omega))|(intro _;exact⟨hr1_2 (by omega),hr1_3 (by omega),hr1_4 (by omega),hr1_5 (by omega),hr1_6 (by omega)⟩)|(subst hr1_1;contradiction)
      ·refine qaa ?_
       first|(intro h;cases h;done)|contradiction|(intro h;exact absurd h (by omega))|(intro _;exact⟨hr1_2 (by omega),hr1_3 (by omega),hr1_4 (by omega),hr1_5 (by omega),hr1_6 (by omega)⟩)|(subst hr1_1;contradiction)
     ·refine qah (by omega) fun n13 hn13=>?_
      exact ihr1.use _ ⟨_,_,rfl,by omega,by rw[show b12=true from Classical.not_not.1 (by assumption)];rfl,fun _=>hr1_2 (by omega),fun _=>hr1_3 (by omega),fun _=>hb12 (Classical.not_not.1 (by assumption)),fun h=>by omega,fun h=>by omega⟩ (by dsimp only;omega)
    ·refine W_if (fun c12=>?_) fun c12=>?_
     ·refine qab (q57 (hr1_2 (by omega))) ?_
      rintro b10 hb10
      refine W_if (fun c13=>?_) fun c13=>?_
      ·refine W_if (fun c14=>?_) fun c14=>?_
       ·refine qaa ?_
        first|(intro h;cases h;done)|contradiction|(intro h;exact absurd h (by omega))|(intro _;exact⟨hr1_2 (by omega),hr1_3 (by omega),hr1_4 (by omega),hr1_5 (by omega),hr1_6 (by omega)⟩)|(subst hr1_1;contradiction)
       ·refine qaa ?_
        first|(intro h;cases h;done)|contradiction|(intro h;exact absurd h (by omega))|(intro _;exact⟨hr1_2 (by omega),hr1_3 (by omega),hr1_4 (by omega),hr1_5 (by omega),hr1_6 (by omega)⟩)|(subst hr1_1;contradiction)
      ·refine qah (by omega) fun n11 hn11=>?_
       exact ihr1.use _ ⟨_,_,rfl,by omega,by rw[show b10=true from Classical.not_not.1 (by assumption)];rfl,fun _=>hr1_2 (by omega),fun _=>hr1_3 (by omega),fun _=>hr1_4 (by omega),fun _=>hb10 (Classical.not_not.1 (by assumption)),fun h=>by omega⟩ (by dsimp only;omega)
     ·refine W_if (fun c15=>?_) fun c15=>?_
      ·refine qab (q2f ⟨(hr1_2 (by omega)),p0⟩ (fun p hp=>(hr1_4 (by omega) p hp).1.2.2)) ?_
       rintro b8 hb8
       refine W_if (fun c16=>?_) fun c16=>?_
       ·refine W_if (fun c17=>?_) fun c17=>?_
        ·refine qaa ?_
         first|(intro h;cases h;done)|contradiction|(intro h;exact absurd h (by omega))|(intro _;exact⟨hr1_2 (by omega),hr1_3 (by omega),hr1_4 (by omega),hr1_5 (by omega),hr1_6 (by omega)⟩)|(subst hr1_1;contradiction)
        ·refine qaa ?_
         first|(intro h;cases h;done)|contradiction|(intro h;exact absurd h (by omega))|(intro _;exact⟨hr1_2 (by omega),hr1_3 (by omega),hr1_4 (by omega),hr1_5 (by omega),hr1_6 (by omega)⟩)|(subst hr1_1;contradiction)
       ·refine qah (by omega) fun n9 hn9=>?_
        exact ihr1.use _ ⟨_,_,rfl,by omega,by rw[show b8=true from Classical.not_not.1 (by assumption)];rfl,fun _=>hr1_2 (by omega),fun _=>hr1_3 (by omega),fun _=>hr1_4 (by omega),fun _=>hr1_5 (by omega),fun _=>hb8 (Classical.not_not.1 (by assumption))⟩ (by dsimp only;omega)
      ·refine W_if (fun c18=>?_) fun c18=>?_
       ·refine qab (qwx ⟨(hr1_2 (by omega)),p0⟩ (fun p hp=>(hr1_4 (by omega) p hp).1.2.2) (fun p hp=>Nat.le_trans (p1.2.2 p hp) (by omega))) ?_
        rintro b6 hb6
        refine W_if (fun c19=>?_) fun c19=>?_
        ·refine W_if (fun c20=>?_) fun c20=>?_
         ·refine qaa ?_
          first|(intro h;cases h;done)|contradiction|(intro h;exact absurd h (by omega))|(intro _;exact⟨hr1_2 (by omega),hr1_3 (by omega),hr1_4 (by omega),hr1_5 (by omega),hr1_6 (by omega)⟩)|(subst hr1_1;contradiction)
         ·refine qaa ?_
          first|(intro h;cases h;done)|contradiction|(intro h;exact absurd h (by omega))|(intro _;exact⟨hr1_2 (by omega),hr1_3 (by omega),hr1_4 (by omega),hr1_5 (by omega),hr1_6 (by omega)⟩)|(subst hr1_1;contradiction)
        ·refine qah (by omega) fun n7 hn7=>?_
         exact ihr1.use _ ⟨_,_,rfl,by omega,by rw[show b6=true from Classical.not_not.1 (by assumption)];rfl,fun _=>hr1_2 (by omega),fun _=>hr1_3 (by omega),fun _=>hr1_4 (by omega),fun _=>hr1_5 (by omega),fun _=>hr1_6 (by omega)⟩ (by dsimp only;omega)
       ·refine W_if (fun c21=>?_) fun c21=>?_
        ·refine W_if (fun c22=>?_) fun c22=>?_
         ·refine qaa ?_
          first|(intro h;cases h;done)|contradiction|(intro h;exact absurd h (by omega))|(intro _;exact⟨hr1_2 (by omega),hr1_3 (by omega),hr1_4 (by omega),hr1_5 (by omega),hr1_6 (by omega)⟩)|(subst hr1_1;contradiction)
         ·refine qaa ?_
          first|(intro h;cases h;done)|contradiction|(intro h;exact absurd h (by omega))|(intro _;exact⟨hr1_2 (by omega),hr1_3 (by omega),hr1_4 (by omega),hr1_5 (by omega),hr1_6 (by omega)⟩)|(subst hr1_1;contradiction)
        ·refine qah (by omega) fun n5 hn5=>?_
         exact ihr1.use _ ⟨_,_,rfl,by omega,hr1_1,fun _=>hr1_2 (by omega),fun _=>hr1_3 (by omega),fun _=>hr1_4 (by omega),fun _=>hr1_5 (by omega),fun _=>hr1_6 (by omega)⟩ (by dsimp only;omega)
 ·refine W_if (fun c23=>?_) fun c23=>?_
  ·refine qaa ?_
   first|(intro h;cases h;done)|contradiction|(intro h;exact absurd h (by omega))|(intro _;exact⟨hr1_2 (by omega),hr1_3 (by omega),hr1_4 (by omega),hr1_5 (by omega),hr1_6 (by omega)⟩)|(subst hr1_1;contradiction)
  ·refine qaa ?_
   first|(intro h;cases h;done)|contradiction|(intro h;exact absurd h (by omega))|(intro _;exact⟨hr1_2 (by omega),hr1_3 (by omega),hr1_4 (by omega),hr1_5 (by omega),hr1_6 (by omega)⟩)|(subst hr1_1;contradiction)
end Go.Proofs.YtcdppfnjidlknaaGreatDoor
namespace Go.Proofs.YtcdppfnjidlknaaGreatDoor
open Go Go.Eng Go.Proofs Go.Wp
def PlB (q:Plan):Prop:=q.splits.length≤8∧(0≤q.cycle∧q.cycle≤1048576)∧(0≤q.offset∧q.offset≤1048576)∧∀ x∈q.splits,0≤x∧x≤1048576
theorem qwy {b:List UInt8}:W (qxs b) (fun r=>0≤r.1∧r.1<18446744073709551616):=by
 unfold qxs q0P
 refine W_if (fun c1=>?_) fun c1=>?_
 ·refine qaa ?_
  simp
 ·refine qaj (fun v=>∃ n2 n5,v=((),(),n2,b,(b.length:Int),n5,())∧(0≤n5∧n5≤(b.length:Int))∧(0≤n2∧n2<18446744073709551616)) (fun(_,_,n2,_,_,n5,_)=>((b.length:Int)-n5).toNat) ⟨_,_,rfl,by omega,by omega⟩ (by simp only[NN];omega) ?_
  rintro r1 _ ⟨n2,n5,rfl,hr1_0,hr1_1⟩ ihr1
  refine W_if (fun c2=>?_) fun c2=>?_
  ·refine W_ix (by omega) fun x6 hx6=>?_
   refine qac fun n7 hn7=>?_
   refine W_wi (by omega) fun n8 hn8=>?_
   refine qaf (by omega) ?_
   refine qac fun n9 hn9=>?_
   refine qac fun n10 hn10=>?_
   have g10:=q8y .or n2 n9
   rw[← hn10] at g10
   refine qah (by omega) fun n11 hn11=>?_
   exact ihr1.use _ ⟨_,_,rfl,by omega,by omega⟩ (by dsimp only;omega)
  ·refine qaa ?_
   first|omega|simp|trivial
theorem qkr {b:List UInt8}(p0:b.length≤140737488355328):W (qkI b) (fun r=>(0≤r.1∧r.1<18446744073709551616)∧(0≤r.2.1∧r.2.1≤b.length)∧(r.2.2=0→0<r.2.1)):=by
 unfold qkI qvk
 refine qaj (fun v=>∃ n2 n5,v=((),(),n2,b,(b.length:Int),n5,())∧(0≤n5∧n5≤(b.length:Int))∧(0≤n2∧n2<18446744073709551616)) (fun(_,_,n2,_,_,n5,_)=>((b.length:Int)-n5).toNat) ⟨_,_,rfl,by omega,by omega⟩ (by simp only[NN];omega) ?_
 rintro r1 _ ⟨n2,n5,rfl,hr1_0,hr1_1⟩ ihr1
 refine W_if (fun c1=>?_) fun c1=>?_
 ·refine W_ix (by omega) fun x6 hx6=>?_
  refine W_if (fun c2=>?_) fun c2=>?_
  ·refine qaa ?_
   exact⟨by dsimp only;omega,by dsimp only;omega,by dsimp only;omega⟩
  ·refine qac fun n7 hn7=>?_
   refine qac fun n8 hn8=>?_
   refine W_wi (by omega) fun n9 hn9=>?_
   refine qaf (by omega) ?_
   refine qac fun n10 hn10=>?_
   refine qac fun n11 hn11=>?_
   have g11:=q8y .or n2 n10
   rw[← hn11] at g11
   refine W_if (fun c4=>?_) fun c4=>?_
   ·refine W_if (fun c5=>?_) fun c5=>?_
    ·refine qaa ?_
     exact⟨by dsimp only;omega,by dsimp only;omega,by dsimp only;omega⟩
    ·refine qah (by omega) fun n13 hn13=>?_
     refine qaa ?_
     exact⟨by dsimp only;omega,by dsimp only;omega,by dsimp only;omega⟩
   ·refine qah (by omega) fun n12 hn12=>?_
    exact ihr1.use _ ⟨_,_,rfl,by omega,by omega⟩ (by dsimp only;omega)
 ·refine qaa ?_
  exact⟨by dsimp only;omega,by dsimp only;omega,by dsimp only;omega⟩
theorem qc9 {n:Int}(p0:0≤n∧n<18446744073709551616):W (qdk n) (fun r=>1≤r.length∧r.length≤10):=by
 unfold qdk qoO
 refine qaj (fun v=>∃ z2 n3,v=((z2,()),(),n3,())∧(0≤n3∧n3.toNat≤smD z2.length)∧(z2.length≤9)) (fun((z2,_),_,n3,_)=>n3.toNat) ⟨_,_,rfl,smD_0 p0,by simp⟩ (by simp only[NN];omega) ?_
 rintro r1 _ ⟨z2,n3,rfl,hr1_0,hr1_1⟩ ihr1
 refine W_if (fun c1=>?_) fun c1=>?_
 ·have g9:=smD_9 hr1_0.2 (by omega)
  have q9:=smD_step hr1_0
  refine qac fun n6 hn6=>?_
  refine qac fun n7 hn7=>?_
  refine W_rm (by omega) ?_
  refine qac fun z8 hz8=>?_
  have lz8:=congrArg List.length hz8;try simp at lz8
  refine qac fun n9 hn9=>?_
  refine W_rs (by omega) ?_
  exact ihr1.use _ ⟨_,_,rfl,by rw[hn9,lz8];exact⟨q9.1,q9.2.1⟩,by omega⟩ (by dsimp only;omega)
 ·refine qac fun n4 hn4=>?_
  refine W_rm (by omega) ?_
  refine qac fun z5 hz5=>?_
  have lz5:=congrArg List.length hz5;try simp at lz5
  refine W_rs (by omega) ?_
  refine qaa ?_
  first|omega|simp|trivial
theorem qwz {n:Int}{width:Int}(p0:0≤n∧n<18446744073709551616)(p1:0≤width∧width≤8):W (qxw n width) (fun r=>r.1.length≤8∧(r.2=0→r.1.length=width.toNat)∧(width=8→r.1.length=8)∧(width=4→n<4294967296→r.2=0)):=by
 unfold qxw q0R
 refine W_wi (by omega) fun n1 hn1=>?_
 refine qaf (by (first|omega|simp)) ?_
 refine qac fun n2 hn2=>?_
 refine W_if (fun c2=>?_) fun c2=>?_
 ·refine qaa ?_
  dsimp only;exact⟨by simp,fun h=>by omega,fun h=>by omega,fun h g=>by have e1:n1=32:=(by omega);subst e1;have e2:n2=n.fdiv 4294967296:=hn2;rw[Int.fdiv_eq_ediv_of_nonneg _ (by omega)] at e2;omega⟩
 ·refine qaf (by omega) ?_
  refine W_rs (by simp) ?_
  refine qaj (fun v=>∃ z4 n7,v=((z4,()),(),n,(↑width.toNat:Int),n7,())∧(0≤n7∧n7≤(↑width.toNat:Int))∧(z4.length=width.toNat)) (fun((z4,_),_,_,_,n7,_)=>((↑width.toNat:Int)-n7).toNat) ⟨_,_,rfl,by omega,by simp⟩ (by simp only[NN];omega) ?_
  rintro r3 _ ⟨z4,n7,rfl,hr3_0,hr3_1⟩ ihr3
  refine W_if (fun c5=>?_) fun c5=>?_
  ·refine W_wi (by omega) fun n8 hn8=>?_
   refine qaf (by omega) ?_
   refine qac fun n9 hn9=>?_
   refine qac fun n10 hn10=>?_
   refine W_rb (by omega) ?_
   refine qaf (by omega) ?_
   refine qac fun z11 hz11=>?_
   have lz11:=congrArg List.length hz11;try simp at lz11
   refine qah (by omega) fun n12 hn12=>?_
   refine W_rs (by omega) ?_
   exact ihr3.use _ ⟨_,_,rfl,by omega,by omega⟩ (by dsimp only;omega)
  ·refine W_rs rfl ?_
   refine qaa ?_
   dsimp only;exact⟨by omega,fun _=>by omega,fun h=>by omega,fun _ _=>rfl⟩
theorem qgc {a:List UInt8}{b:List UInt8}:W (qdP a b) (fun r=>r=true↔a=b):=by
 unfold qdP qib
 refine qaa ?_
 simp
theorem qgd {d:List UInt8}(p0:d.length≤1000000000):W (qdO d) (fun r=>(r=0↔(64≤d.length∧d.length≤4096∧d.length % 64=0))):=by
 unfold qdO qia
 have e:=Int.tmod_eq_emod_of_nonneg (a:=(d.length:Int)) (b:=64) (by omega)
 refine qaf (by simp) ?_
 refine qac fun n1 hn1=>?_
 refine W_if (fun c2=>?_) fun c2=>?_
 ·refine qaa ?_
  omega
 ·refine qaa ?_
  omega
theorem qfa {d:List UInt8}(p0:d.length≤1000000000):W (qdT d) (fun r=>(r.2=0↔(64≤d.length∧d.length≤4096∧d.length % 64=0))∧(r.2=0→r.1*64=d.length∧r.1≤64∧1≤r.1)):=by
 unfold qdT qll
 have e:=Int.tdiv_eq_ediv_of_nonneg (a:=(d.length:Int)) (b:=64) (by omega)
 refine qab (qgd (by omega)) ?_
 rintro n1 hn1
 refine W_if (fun c1=>?_) fun c1=>?_
 ·refine qaa ?_
  exact⟨hn1,fun h=>absurd h c1⟩
 ·refine W_wi (by omega) fun n2 hn2=>?_
  refine qaa ?_
  dsimp only;omega
theorem qmN {d:List UInt8}{n:Int}(p0:d.length≤1000000000):W (qgT d n) (fun r=>r=0↔(64≤d.length∧d.length≤4096∧d.length % 64=0)∧0≤n∧n*64+64≤d.length):=by
 unfold qgT qit
 refine qab (qfa (by omega)) ?_
 rintro⟨n1,n2⟩ hn1
 dsimp only at hn1
 refine W_if (fun c1=>?_) fun c1=>?_
 ·refine qaa ?_
  have g:=hn1.2 (by omega);omega
 ·refine qaa ?_
  omega
theorem qd8 {b:List UInt8}(p0:b.length≤1000000):W (qc6 b) (fun r=>r=b):=by
 unfold qc6 qbQ
 refine W_if (fun c1=>?_) fun c1=>?_
 ·refine W_sm ?_
  refine qaa ?_
  cases b with|nil=>rfl|cons=>simp at c1
 ·refine qaf (by omega) ?_
  refine qac fun z1 hz1=>?_
  have lz1:=congrArg List.length hz1;try simp at lz1
  refine W_rs (by omega) ?_
  refine qaa ?_
  simp_all
theorem qfb {s:List UInt8}(p0:s.length≤1000000):W (qbR s) (fun r=>r=s):=by
 unfold qbR qbx
 refine W_if (fun c1=>?_) fun c1=>?_
 ·refine W_sm ?_
  refine qaa ?_
  cases s with|nil=>rfl|cons=>simp at c1
 ·refine qaf (by omega) ?_
  refine qac fun z1 hz1=>?_
  have lz1:=congrArg List.length hz1;try simp at lz1
  refine W_rs (by omega) ?_
  refine qaa ?_
  simp_all
theorem qhK {s:List Pls}(p0:s.length≤1000000):W (qdq s) (fun r=>r=s):=by
 unfold qdq qbb
 refine W_if (fun c1=>?_) fun c1=>?_
 ·refine W_sm ?_
  refine qaa ?_
  cases s with|nil=>rfl|cons=>simp at c1
 ·refine qaf (by omega) ?_
  refine qac fun z1 hz1=>?_
  have lz1:=congrArg List.length hz1;try simp at lz1
  refine W_rs (by omega) ?_
  refine qaa ?_
  simp_all
theorem qqT {s:List Gpd}(p0:s.length≤1000000):W (qe1 s) (fun r=>r=s):=by
 unfold qe1 qaR
 refine W_if (fun c1=>?_) fun c1=>?_
 ·refine W_sm ?_
  refine qaa ?_
  cases s with|nil=>rfl|cons=>simp at c1
 ·refine qaf (by omega) ?_
  refine qac fun z1 hz1=>?_
  have lz1:=congrArg List.length hz1;try simp at lz1
  refine W_rs (by omega) ?_
  refine qaa ?_
  simp_all
theorem qks {s:List SeenT}(p0:s.length≤1000000):W (qcQ s) (fun r=>r=s):=by
 unfold qcQ qby
 refine W_if (fun c1=>?_) fun c1=>?_
 ·refine W_sm ?_
  refine qaa ?_
  cases s with|nil=>rfl|cons=>simp at c1
 ·refine qaf (by omega) ?_
  refine qac fun z1 hz1=>?_
  have lz1:=congrArg List.length hz1;try simp at lz1
  refine W_rs (by omega) ?_
  refine qaa ?_
  simp_all
theorem qge {s:List Int}(p0:s.length≤1000000):W (qdS s) (fun r=>r=s):=by
 unfold qdS qbS
 refine W_if (fun c1=>?_) fun c1=>?_
 ·refine W_sm ?_
  refine qaa ?_
  cases s with|nil=>rfl|cons=>simp at c1
 ·refine qaf (by omega) ?_
  refine qac fun z1 hz1=>?_
  have lz1:=congrArg List.length hz1;try simp at lz1
  refine W_rs (by omega) ?_
  refine qaa ?_
  simp_all
theorem q7Z {d:List UInt8}{n:Int}(p0:0≤n∧n*64+64≤d.length)(p1:d.length≤1000000000):W (q0O d n) (fun r=>r.length=64):=by
 unfold q0O qvg
 refine W_wi (by omega) fun n1 hn1=>?_
 refine qaf (by omega) ?_
 refine qaf (by omega) ?_
 refine qaf (by (simp;omega)) ?_
 refine qaa ?_
 simp;omega
theorem qfc {d:List UInt8}{n:Int}(p0:d.length≤1000000000):W (qdX d n) (fun r=>(r.1.length=if r.2=0 then 64 else 0)∧((64≤d.length∧d.length≤4096∧d.length % 64=0)∧0≤n∧n*64+64≤d.length→r.2=0)):=by
 unfold qdX ql1
 refine qab (qmN (by omega)) ?_
 rintro n1 hn1
 refine W_if (fun c1=>?_) fun c1=>?_
 ·refine qaa ?_
  dsimp only;rw[if_neg c1];exact⟨rfl,hn1.2⟩
 ·refine qab (q7Z (hn1.1 (Classical.not_not.1 c1)).2 p0) ?_
  rintro z2 hz2
  refine qab (qd8 (by omega)) ?_
  rintro z3 hz3
  refine W_rs rfl ?_
  refine qaa ?_
  subst hz3;dsimp only;rw[if_pos rfl];exact⟨hz2,fun _=>rfl⟩
theorem qfd {b:List UInt8}:W (qcT b) (fun r=>0≤r∧r<18446744073709551616):=by
 unfold qcT qfK
 refine qab (qwy) ?_
 rintro⟨n1,n2⟩ hn1
 dsimp only at hn1
 refine qaa ?_
 first|omega|simp|trivial
theorem qw0 {d:List UInt8}(p0:d.length≤1000000000):W (qis d) (fun r=>True):=by
 unfold qis qfN
 refine qab (qfa (by omega)) ?_
 rintro⟨n1,n2⟩ hn1
 dsimp only at hn1
 refine qab (qgd (by omega)) ?_
 rintro n3 hn3
 refine qaa ?_
 first|omega|simp|trivial
theorem q58 {l:List Int}(p0:l.length≤1000)(p1:∀ x∈l,0≤x∧x<1000000000):W (qvD l) (fun r=>r.length≤10*l.length):=by
 unfold qvD qpA
 refine qaj (fun v=>∃ z2 n5,v=((z2,()),(),l,(l.length:Int),n5,())∧(0≤n5∧n5≤(l.length:Int))∧((z2.length:Int)≤10*n5)) (fun((z2,_),_,_,_,n5,_)=>((l.length:Int)-n5).toNat) ⟨_,_,rfl,by omega,by simp⟩ (by simp only[NN];omega) ?_
 rintro r1 _ ⟨z2,n5,rfl,hr1_0,hr1_1⟩ ihr1
 refine W_if (fun c1=>?_) fun c1=>?_
 ·refine W_ix (by omega) fun n6 hn6=>?_
  have g6:=qaq (d:=0) p1 (n:=n5) (by omega)
  rw[← hn6] at g6
  refine W_wu (by omega) fun n7 hn7=>?_
  refine qab (qc9 (by omega)) ?_
  rintro z8 hz8
  refine W_rm (by omega) ?_
  refine qac fun z9 hz9=>?_
  have lz9:=congrArg List.length hz9;try simp at lz9
  refine qah (by omega) fun n10 hn10=>?_
  refine W_rs (by omega) ?_
  exact ihr1.use _ ⟨_,_,rfl,by omega,by omega⟩ (by dsimp only;omega)
 ·refine W_rs rfl ?_
  refine qaa ?_
  first|omega|simp|trivial
theorem qzI {b:List UInt8}{l:List Int}(p0:l.length≤1000)(p1:∀ x∈l,0≤x∧x<1000000000)(p2:b.length≤1000000):W (qvW b l) (fun r=>r.length≤b.length+10*l.length):=by
 unfold qvW qvV
 refine W_rs rfl ?_
 refine qaj (fun v=>∃ z2 n5,v=((z2,()),(),l,(l.length:Int),n5,())∧(0≤n5∧n5≤(l.length:Int))∧((z2.length:Int)≤b.length+10*n5)) (fun((z2,_),_,_,_,n5,_)=>((l.length:Int)-n5).toNat) ⟨_,_,rfl,by omega,by omega⟩ (by simp only[NN];omega) ?_
 rintro r1 _ ⟨z2,n5,rfl,hr1_0,hr1_1⟩ ihr1
 refine W_if (fun c2=>?_) fun c2=>?_
 ·refine W_ix (by omega) fun n6 hn6=>?_
  have g6:=qaq (d:=0) p1 (n:=n5) (by omega)
  rw[← hn6] at g6
  refine W_wu (by omega) fun n7 hn7=>?_
  refine qab (qc9 (by omega)) ?_
  rintro z8 hz8
  refine W_rm (by omega) ?_
  refine qac fun z9 hz9=>?_
  have lz9:=congrArg List.length hz9;try simp at lz9
  refine qah (by omega) fun n10 hn10=>?_
  refine W_rs (by omega) ?_
  exact ihr1.use _ ⟨_,_,rfl,by omega,by omega⟩ (by dsimp only;omega)
 ·refine W_rs rfl ?_
  refine qaa ?_
  first|omega|simp|trivial
theorem qcm {r:List UInt8}{r2:Bool}{r3:SiteT}{most:Int}(p0:r.length≤1000000)(p1:0≤most∧most<1000000000):W (qbc r r2 r3 most) (fun q=>(0≤q.1∧q.1≤most)∧q.2.1.length≤r.length):=by
 unfold qbc qil
 refine qab (qkr (by omega)) ?_
 rintro⟨n1,n2,n3⟩ hn1
 dsimp only at hn1
 refine W_wu (by omega) fun n4 hn4=>?_
 refine W_if (fun c1=>?_) fun c1=>?_
 ·refine qaa ?_
  first|exact⟨by dsimp only;omega,by simp⟩|(dsimp only;omega)
 ·refine qaf (by omega) ?_
  refine qaf (by omega) ?_
  refine W_wi (by omega) fun n5 hn5=>?_
  refine qaa ?_
  exact⟨by dsimp only;omega,by simp⟩
theorem qrM {r:List UInt8}{r2:Bool}{r3:SiteT}{n:Int}(p0:r.length≤1000000)(p1:n≤1000):W (qfO r r2 r3 n) (fun q=>(q.1.length:Int)≤max n 0∧(∀ x∈q.1,0≤x∧x≤1048576)∧q.2.1.length≤r.length):=by
 unfold qfO qeH
 refine qaj (fun v=>∃ z2 z3 b4 x5 n7,v=((z2,()),((z3,b4,x5,()),()),n,n7,())∧(0≤n7∧(z2.length:Int)=n7∧n7≤max n 0)∧(∀ x∈z2,0≤x∧x≤1048576)∧(z3.length≤r.length)) (fun((z2,_),((z3,b4,x5,_),_),_,n7,_)=>(n-n7).toNat) ⟨_,_,_,_,_,rfl,by simp;omega,by simp,Nat.le_refl _⟩ (by simp only[NN];omega) ?_
 rintro r1 _ ⟨z2,z3,b4,x5,n7,rfl,hr1_0,hr1_1,hr1_2⟩ ihr1
 refine W_if (fun c1=>?_) fun c1=>?_
 ·refine qab (qcm (by omega) (by omega)) ?_
  rintro⟨n8,z9,b10,x11⟩ hn8
  dsimp only at hn8
  refine W_rm (by omega) ?_
  refine qac fun z12 hz12=>?_
  have lz12:=congrArg List.length hz12;try simp at lz12
  refine qah (by omega) fun n13 hn13=>?_
  refine W_rs (by omega) ?_
  exact ihr1.use _ ⟨_,_,_,_,_,rfl,by omega,by rw[hz12,List.take_length];intro x hx;rcases List.mem_append.1 hx with h|h;exact hr1_1 x h;simp only[List.mem_singleton] at h;subst h;omega,by omega⟩ (by dsimp only;omega)
 ·refine qaa ?_
  dsimp only;rw[List.take_length];exact⟨by omega,hr1_1,hr1_2⟩
theorem qi7 {l:List Plan}(p0:∀ q∈l,q.splits.length≤1000000):W (qfP l) (fun r=>r.1.length≤2000∧(r.2=0→l.length≤8∧∀ q∈l,Tk q.cycle∧(0≤q.offset∧q.offset<q.cycle)∧(1≤q.splits.length∧q.splits.length≤8)∧∀ x∈q.splits,0≤x∧x≤1048576)):=by
 unfold qfP ql2
 refine W_if (fun c1=>?_) fun c1=>?_
 ·refine qaa ?_
  simp
 ·refine qab (q58 (by simp) (by simp;omega)) ?_
  rintro z1 hz1
  refine W_rs rfl ?_
  refine qaj (fun v=>∃ z3 n6,v=((z3,()),(),l,(l.length:Int),n6,())∧(0≤n6∧n6≤(l.length:Int))∧((z3.length:Int)≤10+150*n6)∧(Upto (fun q:Plan=>Tk q.cycle∧(0≤q.offset∧q.offset<q.cycle)∧(1≤q.splits.length∧q.splits.length≤8)∧∀ x∈q.splits,0≤x∧x≤1048576) l (dflt 10) n6)) (fun((z3,_),_,_,_,n6,_)=>((l.length:Int)-n6).toNat) ⟨_,_,rfl,by omega,by simp at hz1 ⊢;omega,Upto.zero⟩ (by simp only[NN];omega) ?_
  rintro r2 _ ⟨z3,n6,rfl,hr2_0,hr2_1,hr2_2⟩ ihr2
  refine W_if (fun c3=>?_) fun c3=>?_
  ·refine W_ix (by omega) fun x7 hx7=>?_
   have g7:=qaq (d:=dflt 10) p0 (n:=n6) (by omega)
   rw[← hx7] at g7
   refine qab (qdc (by simp)) ?_
   rintro b8 hb8
   have t8:=fun h=>hb8 h x7.cycle (by simp)
   refine qac fun n9 hn9=>?_
   refine W_if (fun c4=>?_) fun c4=>?_
   ·refine qaa ?_
    simp
   ·refine qab (qaT) ?_
    rintro b10 hb10
    have w9:n9=x7.cycle-1:=by
     have g0:=t8 (Classical.not_not.1 (by assumption))
     unfold Tk at g0;rw[hn9];exact w64 (by omega)
    refine W_if (fun c5=>?_) fun c5=>?_
    ·refine qaa ?_
     simp
    ·refine qab (qaT) ?_
     rintro b11 hb11
     refine W_if (fun c6=>?_) fun c6=>?_
     ·refine qaa ?_
      simp
     ·refine W_rs rfl ?_
      refine qab (qzI (by simp) (by have:=t8 (Classical.not_not.1 (by assumption));unfold Tk at this;have g1:=hb10.1 (Classical.not_not.1 (by assumption));have g2:=hb11.1 (Classical.not_not.1 (by assumption));simp;exact⟨by omega,by omega,by omega⟩) (by omega)) ?_
      rintro z12 hz12
      have g2:=hb11.1 (Classical.not_not.1 (by assumption))
      refine W_rs rfl ?_
      refine qaj (fun v=>∃ z14 n20,v=((z14,()),(),l,(l.length:Int),n6,x7.splits,(x7.splits.length:Int),n20,())∧(0≤n20∧n20≤(x7.splits.length:Int))∧((z14.length:Int)≤40+150*n6+10*n20)∧(Upto (fun x=>0≤x∧x≤1048576) x7.splits 0 n20)) (fun((z14,_),_,_,_,_,_,_,n20,_)=>((x7.splits.length:Int)-n20).toNat) ⟨_,_,rfl,by omega,by simp at hz12 ⊢;omega,Upto.zero⟩ (by simp only[NN];omega) ?_
      rintro r13 _ ⟨z14,n20,rfl,hr13_0,hr13_1,hr13_2⟩ ihr13
      refine W_if (fun c9=>?_) fun c9=>?_
      ·refine W_ix (by omega) fun n22 hn22=>?_
       refine qab (qaT) ?_
       rintro b23 hb23
       refine W_if (fun c10=>?_) fun c10=>?_
       ·refine qaa ?_
        simp
       ·refine W_rs rfl ?_
        refine qab (qzI (by simp) (by have g3:=hb23.1 (Classical.not_not.1 (by assumption));simp;omega) (by omega)) ?_
        rintro z24 hz24
        refine qah (by omega) fun n25 hn25=>?_
        refine W_rs rfl ?_
        exact ihr13.use _ ⟨_,_,rfl,by omega,by simp at hz24 ⊢;omega,hr13_2.succ (by omega) hn25 (by rw[← hn22];exact hb23.1 (Classical.not_not.1 (by assumption)))⟩ (by dsimp only;omega)
      ·refine qah (by omega) fun n21 hn21=>?_
       refine W_rs rfl ?_
       exact ihr2.use _ ⟨_,_,rfl,by omega,by have g2:=hb11.1 (Classical.not_not.1 (by assumption));omega,hr2_2.succ (by omega) hn21 (by rw[← hx7];have g1:=hb10.1 (Classical.not_not.1 (by assumption));have g2:=hb11.1 (Classical.not_not.1 (by assumption));have g0:=t8 (Classical.not_not.1 (by assumption));have w9:n9=x7.cycle-1:=(by rw[hn9];unfold Tk at g0;exact w64 (by omega));exact⟨g0,by omega,by omega,hr13_2.all (by omega)⟩)⟩ (by dsimp only;omega)
  ·refine W_rs rfl ?_
   refine qaa ?_
   dsimp only;exact⟨by omega,fun _=>⟨by omega,hr2_2.all (by omega)⟩⟩
theorem qw1 {r:List UInt8}{r2:Bool}{r3:SiteT}(p0:r.length≤1000000):W (qiy r r2 r3) (fun q=>q.1.length≤8∧(∀ p∈q.1,PlB p)):=by
 unfold qiy qb0
 refine qab (qcm (by omega) (by omega)) ?_
 rintro⟨n1,z2,b3,x4⟩ hn1
 dsimp only at hn1
 refine qaj (fun v=>∃ z6 z7 b8 x9 n11,v=((z6,()),((z7,b8,x9,()),()),n1,n11,())∧(0≤n11∧(z6.length:Int)=n11∧n11≤n1)∧(∀ p∈z6,PlB p)∧(z7.length≤r.length)) (fun((z6,_),((z7,b8,x9,_),_),_,n11,_)=>(n1-n11).toNat) ⟨_,_,_,_,_,rfl,by simp;omega,by simp,by omega⟩ (by simp only[NN];omega) ?_
 rintro r5 _ ⟨z6,z7,b8,x9,n11,rfl,hr5_0,hr5_1,hr5_2⟩ ihr5
 refine W_if (fun c1=>?_) fun c1=>?_
 ·refine qa3 (fun((z97,_),((z98,b99,x100,_),(x101,_),_),n102,n103,_)=>z6=z97∧n1=n102∧n11=n103∧(z98.length≤r.length∧(0≤x101.cycle∧x101.cycle≤1048576)∧(0≤x101.offset∧x101.offset≤1048576))) (fun J12 hJ12=>?_) ?_
  ·refine W_sm ?_
   refine qab (qcm (by omega) (by omega)) ?_
   rintro⟨n13,z14,b15,x16⟩ hn13
   dsimp only at hn13
   refine W_sm ?_
   refine qab (qcm (by omega) (by omega)) ?_
   rintro⟨n17,z18,b19,x20⟩ hn17
   dsimp only at hn17
   refine W_rs rfl ?_
   exact hJ12.use _ (by dsimp only;exact⟨rfl,rfl,rfl,by omega,by omega,by omega⟩)
  ·rintro⟨⟨z97,_⟩,⟨⟨z98,b99,x100,_⟩,⟨x101,_⟩,_⟩,n102,n103,_⟩ kJ12;dsimp only at kJ12
   obtain⟨rfl,rfl,rfl,kJ12⟩:=kJ12
   obtain⟨k1,k2,k3⟩:=kJ12
   refine qa3 (fun((z129,_),((z130,b131,x132,_),(x133,_),_),n134,n135,_)=>z6=z129∧n1=n134∧n11=n135∧(z130.length≤r.length∧PlB x133)) (fun J104 hJ104=>?_) ?_
   ·refine W_sm ?_
    refine qab (qcm (by omega) (by omega)) ?_
    rintro⟨n105,z106,b107,x108⟩ hn105
    dsimp only at hn105
    refine qab (qrM (by omega) (by omega)) ?_
    rintro⟨z109,z110,b111,x112⟩ hz109
    dsimp only at hz109
    refine W_rs rfl ?_
    exact hJ104.use _ (by dsimp only;exact⟨rfl,rfl,rfl,by omega,by dsimp only;omega,k2,k3,hz109.2.1⟩)
   ·rintro⟨⟨z129,_⟩,⟨⟨z130,b131,x132,_⟩,⟨x133,_⟩,_⟩,n134,n135,_⟩ kJ104;dsimp only at kJ104
    obtain⟨rfl,rfl,rfl,kJ104⟩:=kJ104
    obtain⟨k4,k5⟩:=kJ104
    refine W_rm (by omega) ?_
    refine qac fun z136 hz136=>?_
    have lz136:=congrArg List.length hz136;try simp at lz136
    refine qah (by omega) fun n137 hn137=>?_
    refine W_rs (by omega) ?_
    exact ihr5.use _ ⟨_,_,_,_,_,rfl,by omega,by rw[hz136,List.take_length];intro q hq;rcases List.mem_append.1 hq with h|h;exact hr5_1 q h;simp only[List.mem_singleton] at h;subst h;exact k5,by omega⟩ (by dsimp only;omega)
 ·refine qaa ?_
  dsimp only;rw[List.take_length];exact⟨by omega,hr5_1⟩
theorem q2h {b:List UInt8}(p0:b.length≤1000000):W (qqw b) (fun q=>q.1.length≤8∧(∀ p∈q.1,PlB p)):=by
 unfold qqw qlA
 refine qab (qw1 (by omega)) ?_
 rintro⟨z1,z2,b3,x4⟩ hz1
 dsimp only at hz1
 refine qab (qi7 (fun q hq=>by have:=(hz1.2 q hq).1;omega)) ?_
 rintro⟨z5,n6⟩ hz5
 dsimp only at hz5
 refine W_if (fun c1=>?_) fun c1=>?_
 ·refine qaa ?_
  simp
 ·refine qab (qgc) ?_
  rintro b7 hb7
  refine W_if (fun c2=>?_) fun c2=>?_
  ·refine qaa ?_
   simp
  ·refine qaa ?_
   exact hz1
end Go.Proofs.YtcdppfnjidlknaaGreatDoor
