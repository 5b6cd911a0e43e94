import Derived.Test.YtcdppfnjidlknaaGreatDoorYbd
set_option linter.unusedVariables false
set_option linter.unusedSimpArgs false
namespace Go.Proofs.YtcdppfnjidlknaaGreatDoor
open Go Go.Eng Go.Proofs Go.Wp
theorem La_ext {l m:List UInt8}(h:l.length=m.length)(g:FA (fun i=>La l i=La m i) l.length):l=m:=by
  refine List.ext_getElem h fun i h1 h2=>?_
  have:=g i (by omega)
  unfold La at this
  dsimp only at this
  rw[qbK h1,qbK h2] at this
  exact UInt8.toNat_inj.1 (by omega)
def Rung (s:SiteT)(r r2:Int)(r3 f f2 f3 f4:Bool)(q q2:Int)(q3:Bool):Prop:=(q3=true↔r3=true∨f4=false)∧(q3=true→q=0∧q2=0)∧(q3=false→1≤q)∧((0≤q∧q≤3)∧0≤q2∧q2≤1048576)∧(q=3→f=true∧f2=true∧f3=true)∧(2≤q→f2=true)∧(r<q→q=r+1∧s.heal≤r2+1)∧(q=r→q2≤r2+1)∧(q≠r→q2=0)
theorem qw8 {kept:Int}:W (qet kept) (fun r=>r=(if kept=2∨kept=3 then 2 else 1,0,false)):=by
 unfold qet qfF
 refine W_if (fun c1=>?_) fun c1=>?_
 ·refine qaa ?_
  rw[if_pos c1]
 ·refine qaa ?_
  rw[if_neg c1]
theorem qaA {n:Int}{most:Int}(p0:0≤n∧n≤1073741824)(p1:n≤most):W (qa1 n most) (fun r=>r=min (n+1) most):=by
 unfold qa1 qkO
 refine qah (by omega) fun n1 hn1=>?_
 refine qac fun n2 hn2=>?_
 refine qaa ?_
 rw[hn2,hn1]
theorem q0b {s1:List Int}{s2:List Int}(p0:s1.length≤1000000):W (qkP s1 s2) (fun _=>True):=by
 unfold qkP qid
 refine W_if (fun c1=>?_) fun c1=>?_
 ·refine qaa ?_
  trivial
 ·refine qaj (fun v=>∃ n5,v=((),(),s1,s2,(s1.length:Int),n5,())∧(0≤n5∧n5≤(s1.length:Int))) (fun(_,_,_,_,_,n5,_)=>((s1.length:Int)-n5).toNat) ⟨_,rfl,by omega⟩ (by simp only[NN];omega) ?_
  rintro r1 _ ⟨n5,rfl,hr1_0⟩ ihr1
  refine W_if (fun c2=>?_) fun c2=>?_
  ·refine W_ix (by omega) fun n6 hn6=>?_
   refine W_ix (by omega) fun n7 hn7=>?_
   refine W_if (fun c3=>?_) fun c3=>?_
   ·refine qaa ?_
    trivial
   ·refine qah (by omega) fun n8 hn8=>?_
    exact ihr1.use _ ⟨_,rfl,by omega⟩ (by dsimp only;omega)
  ·refine qaa ?_
   trivial
theorem q2u {a:Plan}{b:Plan}(p0:a.splits.length≤1000000):W (qpG a b) (fun _=>True):=by
 unfold qpG qln
 refine W_if (fun c1=>?_) fun c1=>?_
 ·refine qab (q0b (by omega)) ?_
  rintro b1 hb1
  refine qaa ?_
  trivial
 ·refine qaa ?_
  trivial
theorem qup {g:Gpd}:W (qns g) (fun _=>True):=by
 unfold qns qpj
 refine qac fun n1 hn1=>?_
 refine qac fun n2 hn2=>?_
 refine W_if (fun c1=>?_) fun c1=>?_
 ·refine qaa ?_
  trivial
 ·refine W_if (fun c2=>?_) fun c2=>?_
  ·refine W_if (fun c3=>?_) fun c3=>?_
   ·refine qaa ?_
    trivial
   ·refine qaa ?_
    trivial
  ·refine W_if (fun c4=>?_) fun c4=>?_
   ·refine W_if (fun c5=>?_) fun c5=>?_
    ·refine qaa ?_
     trivial
    ·refine qaa ?_
     trivial
   ·refine qac fun n3 hn3=>?_
    refine W_if (fun c6=>?_) fun c6=>?_
    ·refine qaa ?_
     trivial
    ·refine qaa ?_
     trivial
theorem q8s {g:Gpd}{up:Bool}:W (q1q g up) (fun _=>True):=by
 unfold q1q qvI
 refine qab (qup) ?_
 rintro n1 hn1
 refine W_if (fun c1=>?_) fun c1=>?_
 ·refine qaa ?_
  trivial
 ·refine qac fun n2 hn2=>?_
  refine W_if (fun c2=>?_) fun c2=>?_
  ·refine qac fun n11 hn11=>?_
   refine qac fun n12 hn12=>?_
   refine qaa ?_
   trivial
  ·refine W_if (fun c3=>?_) fun c3=>?_
   ·refine qac fun n6 hn6=>?_
    refine qac fun n7 hn7=>?_
    refine qac fun n8 hn8=>?_
    refine qac fun n9 hn9=>?_
    refine qac fun n10 hn10=>?_
    refine qaa ?_
    trivial
   ·refine qac fun n3 hn3=>?_
    refine qac fun n4 hn4=>?_
    refine qac fun n5 hn5=>?_
    refine qaa ?_
    trivial
theorem q8t {g:Gpd}{gap:Int}:W (q1t g gap) (fun _=>True):=by
 unfold q1t qvL
 refine qab (qup) ?_
 rintro n1 hn1
 refine W_if (fun c1=>?_) fun c1=>?_
 ·refine qaa ?_
  trivial
 ·refine W_if (fun c2=>?_) fun c2=>?_
  ·refine qaa ?_
   trivial
  ·refine qaa ?_
   trivial
theorem eyeMay_w {x:Lkd}:W (q70 x) (fun _=>True):=by
 unfold q70 q1b
 refine qac fun n1 hn1=>?_
 refine qac fun n2 hn2=>?_
 refine qaa ?_
 trivial
theorem quq {s:SiteT}{l:List Lkd}(p0:SG s)(p1:l.length≤1000):W (qnK s l) (fun r=>r=0→l.length=s.eyes.length):=by
 unfold qnK qq6
 refine qb5 (p0.ck) ?_
 refine W_if (fun c1=>?_) fun c1=>?_
 ·refine qaa ?_
  exact absurd rfl c1
 ·refine W_if (fun c2=>?_) fun c2=>?_
  ·refine qaa ?_
   omega
  ·refine qaj (fun v=>∃ n5,v=((),(),l,(l.length:Int),n5,())∧(0≤n5∧n5≤(l.length:Int))) (fun(_,_,_,_,n5,_)=>((l.length:Int)-n5).toNat) ⟨_,rfl,by omega⟩ (by simp only[NN];omega) ?_
   rintro r2 _ ⟨n5,rfl,hr2_0⟩ ihr2
   refine W_if (fun c3=>?_) fun c3=>?_
   ·refine W_ix (by omega) fun x6 hx6=>?_
    refine qab (eyeMay_w) ?_
    rintro b7 hb7
    refine W_if (fun c4=>?_) fun c4=>?_
    ·refine qaa ?_
     omega
    ·refine qah (by omega) fun n8 hn8=>?_
     exact ihr2.use _ ⟨_,rfl,by omega⟩ (by dsimp only;omega)
   ·refine qaa ?_
    omega
theorem qee {x:Int}:W (qbE x) (fun _=>True):=by
 unfold qbE qcs
 refine qac fun n1 hn1=>?_
 refine qac fun n2 hn2=>?_
 refine qac fun n3 hn3=>?_
 refine qac fun n4 hn4=>?_
 refine qac fun n5 hn5=>?_
 refine qac fun n6 hn6=>?_
 refine qac fun n7 hn7=>?_
 refine qac fun n8 hn8=>?_
 refine qac fun n9 hn9=>?_
 refine qac fun n10 hn10=>?_
 refine qac fun n11 hn11=>?_
 refine qac fun n12 hn12=>?_
 refine qac fun n13 hn13=>?_
 refine qac fun n14 hn14=>?_
 refine qac fun n15 hn15=>?_
 refine qac fun n16 hn16=>?_
 refine qac fun n17 hn17=>?_
 refine qac fun n18 hn18=>?_
 refine qac fun n19 hn19=>?_
 refine qaa ?_
 trivial
theorem q8u {s:SiteT}{i:Int}{x:Lkd}{up:Bool}(p0:0≤i∧i<s.eyes.length):W (q1r s i x up) (fun _=>True):=by
 unfold q1r qvJ
 refine qac fun n1 hn1=>?_
 refine W_if (fun c1=>?_) fun c1=>?_
 ·refine qac fun n9 hn9=>?_
  refine qac fun n10 hn10=>?_
  refine qac fun n11 hn11=>?_
  refine W_ix (by omega) fun x12 hx12=>?_
  refine W_if (fun c2=>?_) fun c2=>?_
  ·refine W_if (fun c3=>?_) fun c3=>?_
   ·refine qaa ?_
    trivial
   ·refine W_if (fun c4=>?_) fun c4=>?_
    ·refine qac fun n16 hn16=>?_
     refine W_if (fun c5=>?_) fun c5=>?_
     ·refine qaa ?_
      trivial
     ·refine qaa ?_
      trivial
    ·refine qaa ?_
     trivial
  ·refine W_if (fun c6=>?_) fun c6=>?_
   ·refine W_if (fun c7=>?_) fun c7=>?_
    ·refine qaa ?_
     trivial
    ·refine W_if (fun c8=>?_) fun c8=>?_
     ·refine qac fun n15 hn15=>?_
      refine W_if (fun c9=>?_) fun c9=>?_
      ·refine qaa ?_
       trivial
      ·refine qaa ?_
       trivial
     ·refine qaa ?_
      trivial
   ·refine qab (qee) ?_
    rintro n13 hn13
    refine W_if (fun c10=>?_) fun c10=>?_
    ·refine qaa ?_
     trivial
    ·refine W_if (fun c11=>?_) fun c11=>?_
     ·refine qac fun n14 hn14=>?_
      refine W_if (fun c12=>?_) fun c12=>?_
      ·refine qaa ?_
       trivial
      ·refine qaa ?_
       trivial
     ·refine qaa ?_
      trivial
 ·refine qac fun n2 hn2=>?_
  refine qac fun n3 hn3=>?_
  refine W_ix (by omega) fun x4 hx4=>?_
  refine W_if (fun c13=>?_) fun c13=>?_
  ·refine W_if (fun c14=>?_) fun c14=>?_
   ·refine qaa ?_
    trivial
   ·refine W_if (fun c15=>?_) fun c15=>?_
    ·refine qac fun n8 hn8=>?_
     refine W_if (fun c16=>?_) fun c16=>?_
     ·refine qaa ?_
      trivial
     ·refine qaa ?_
      trivial
    ·refine qaa ?_
     trivial
  ·refine W_if (fun c17=>?_) fun c17=>?_
   ·refine W_if (fun c18=>?_) fun c18=>?_
    ·refine qaa ?_
     trivial
    ·refine W_if (fun c19=>?_) fun c19=>?_
     ·refine qac fun n7 hn7=>?_
      refine W_if (fun c20=>?_) fun c20=>?_
      ·refine qaa ?_
       trivial
      ·refine qaa ?_
       trivial
     ·refine qaa ?_
      trivial
   ·refine qab (qee) ?_
    rintro n5 hn5
    refine W_if (fun c21=>?_) fun c21=>?_
    ·refine qaa ?_
     trivial
    ·refine W_if (fun c22=>?_) fun c22=>?_
     ·refine qac fun n6 hn6=>?_
      refine W_if (fun c23=>?_) fun c23=>?_
      ·refine qaa ?_
       trivial
      ·refine qaa ?_
       trivial
     ·refine qaa ?_
      trivial
theorem eyeAll_w {s:SiteT}{l:List Lkd}{ups:Int}(p0:SG s)(p1:l.length≤1000)(p2:0≤ups∧ups<4294967296):W (q7S s l ups) (fun r=>(r.2=0→r.1.length=s.eyes.length)∧r.1.length≤1000):=by
 unfold q7S q1N
 refine qab (quq (by omega) (by omega)) ?_
 rintro n1 hn1
 refine W_if (fun c1=>?_) fun c1=>?_
 ·refine qaa ?_
  exact⟨fun h=>absurd h c1,by simp⟩
 ·refine qwK (by omega) ?_
  refine W_rs (by simp) ?_
  refine qaj (fun v=>∃ z3 n8,v=((z3,()),((s,()),()),ups,l,(l.length:Int),n8,())∧(0≤n8∧n8≤(l.length:Int))∧(z3.length=l.length)) (fun((z3,_),((_,_),_),_,_,_,n8,_)=>((l.length:Int)-n8).toNat) ⟨_,_,rfl,by omega,by simp⟩ (by simp only[NN];omega) ?_
  rintro r2 _ ⟨z3,n8,rfl,hr2_0,hr2_1⟩ ihr2
  refine W_if (fun c4=>?_) fun c4=>?_
  ·refine W_ix (by omega) fun x9 hx9=>?_
   refine qab (qkq (by omega)) ?_
   rintro b10 hb10
   refine qab (q8u (by omega)) ?_
   rintro x11 hx11
   refine W_rb (by omega) ?_
   refine qaf (by omega) ?_
   refine qac fun z12 hz12=>?_
   have lz12:=congrArg List.length hz12;try simp at lz12
   refine qah (by omega) fun n13 hn13=>?_
   refine W_rs (by omega) ?_
   exact ihr2.use _ ⟨_,_,rfl,by omega,by omega⟩ (by dsimp only;omega)
  ·refine qaa ?_
   dsimp only;rw[List.take_length];omega
theorem qre {s:SiteT}{phase:Int}{group:Int}(p0:0≤phase∧phase<s.phases.length)(p1:0≤group):W (qjq s phase group) (fun _=>True):=by
 unfold qjq qkS
 refine W_ix (by omega) fun x1 hx1=>?_
 refine qaf (by omega) ?_
 refine qac fun n2 hn2=>?_
 refine qac fun n3 hn3=>?_
 refine qaa ?_
 trivial
theorem q2v {s:SiteT}{now:List SeenT}{now2:Int}{now3:Bool}{phase:Int}(p0:0≤phase∧phase<s.phases.length)(p1:now.length≤1000):W (qpK s now now2 now3 phase) (fun _=>True):=by
 unfold qpK qlq
 refine qaj (fun v=>∃ n6,v=((),((s,()),()),phase,now,(now.length:Int),n6,())∧(0≤n6∧n6≤(now.length:Int))) (fun(_,((_,_),_),_,_,_,n6,_)=>((now.length:Int)-n6).toNat) ⟨_,rfl,by omega⟩ (by simp only[NN];omega) ?_
 rintro r1 _ ⟨n6,rfl,hr1_0⟩ ihr1
 refine W_if (fun c1=>?_) fun c1=>?_
 ·refine W_ix (by omega) fun x7 hx7=>?_
  refine qab (qre (by omega) (by omega)) ?_
  rintro b8 hb8
  refine W_if (fun c2=>?_) fun c2=>?_
  ·refine qaa ?_
   trivial
  ·refine qah (by omega) fun n9 hn9=>?_
   exact ihr1.use _ ⟨_,rfl,by omega⟩ (by dsimp only;omega)
 ·refine qaa ?_
  trivial
theorem qw9 {x:Lkd}:W (qig x) (fun _=>True):=by
 unfold qig qfI
 refine qaa ?_
 trivial
theorem qrf {s:SiteT}{l:List Lkd}(p0:SG s)(p1:l.length≤1000):W (qqC s l) (fun r=>r.2=0→l.length=s.eyes.length):=by
 unfold qqC qwo
 refine qab (quq (by omega) (by omega)) ?_
 rintro n1 hn1
 refine W_if (fun c1=>?_) fun c1=>?_
 ·refine qaa ?_
  exact fun h=>absurd h c1
 ·refine qaj (fun v=>∃ n4 n5 n8,v=((),((s,()),()),n4,n5,l,(l.length:Int),n8,())∧(0≤n8∧n8≤(l.length:Int))) (fun(_,((_,_),_),n4,n5,_,_,n8,_)=>((l.length:Int)-n8).toNat) ⟨_,_,_,rfl,by omega⟩ (by simp only[NN];omega) ?_
  rintro r2 _ ⟨n4,n5,n8,rfl,hr2_0⟩ ihr2
  refine W_if (fun c2=>?_) fun c2=>?_
  ·refine W_ix (by omega) fun x9 hx9=>?_
   have e1:=hn1 (Classical.not_not.1 c1)
   refine W_ix (by omega) fun x10 hx10=>?_
   refine qab (qud) ?_
   rintro n11 hn11
   refine qab (qw9) ?_
   rintro b12 hb12
   refine W_if (fun c3=>?_) fun c3=>?_
   ·refine qab (qud) ?_
    rintro n14 hn14
    refine qah (by omega) fun n15 hn15=>?_
    exact ihr2.use _ ⟨_,_,_,rfl,by omega⟩ (by dsimp only;omega)
   ·refine qah (by omega) fun n13 hn13=>?_
    exact ihr2.use _ ⟨_,_,_,rfl,by omega⟩ (by dsimp only;omega)
  ·refine qaa ?_
   exact fun _=>hn1 (Classical.not_not.1 c1)
theorem q5H {x:Lkd}:W (qvw x) (fun _=>True):=by
 unfold qvw qpk
 refine qaa ?_
 trivial
theorem q5I {s:SiteT}{l:List Lkd}(p0:SG s)(p1:l.length≤1000):W (qws s l) (fun _=>True):=by
 unfold qws qqJ
 obtain⟨⟨q1,q2,q3,q4,q5,q6,q7,q8⟩,q9⟩:=p0.ok.shape
 refine qab (qrf (by omega) (by omega)) ?_
 rintro⟨b1,n2⟩ hb1
 dsimp only at hb1
 refine W_if (fun c1=>?_) fun c1=>?_
 ·refine qaa ?_
  trivial
 ·refine qaj (fun v=>∃ n6 n9,v=((),((s,()),()),l,n6,s.phases,(s.phases.length:Int),n9,())∧(0≤n9∧n9≤(s.phases.length:Int))) (fun(_,((_,_),_),_,n6,_,_,n9,_)=>((s.phases.length:Int)-n9).toNat) ⟨_,_,rfl,by omega⟩ (by simp only[NN];omega) ?_
  rintro r3 _ ⟨n6,n9,rfl,hr3_0⟩ ihr3
  refine W_if (fun c2=>?_) fun c2=>?_
  ·refine W_ix (by omega) fun x23 hx23=>?_
   refine W_if (fun c3=>?_) fun c3=>?_
   ·refine qaf (by omega) ?_
    refine qac fun n25 hn25=>?_
    refine qac fun n26 hn26=>?_
    refine qah (by omega) fun n27 hn27=>?_
    exact ihr3.use _ ⟨_,_,rfl,by omega⟩ (by dsimp only;omega)
   ·refine qah (by omega) fun n24 hn24=>?_
    exact ihr3.use _ ⟨_,_,rfl,by omega⟩ (by dsimp only;omega)
  ·refine qaj (fun v=>∃ n12 n15,v=((),((s,()),()),n12,l,(l.length:Int),n15,())∧(0≤n15∧n15≤(l.length:Int))) (fun(_,((_,_),_),n12,_,_,n15,_)=>((l.length:Int)-n15).toNat) ⟨_,_,rfl,by omega⟩ (by simp only[NN];omega) ?_
   rintro r10 _ ⟨n12,n15,rfl,hr10_0⟩ ihr10
   refine W_if (fun c5=>?_) fun c5=>?_
   ·refine W_ix (by omega) fun x16 hx16=>?_
    have e1:=hb1 (Classical.not_not.1 c1)
    refine qab (q5H) ?_
    rintro b17 hb17
    refine W_if (fun c6=>?_) fun c6=>?_
    ·refine W_ix (by omega) fun x19 hx19=>?_
     have e2:=(p0.ok.eyes _ (qb6 (d:=dflt 19) (n:=n15) (by omega))).1
     rw[← hx19] at e2
     refine qaf (by omega) ?_
     refine qac fun n20 hn20=>?_
     refine qac fun n21 hn21=>?_
     refine qah (by omega) fun n22 hn22=>?_
     exact ihr10.use _ ⟨_,_,rfl,by omega⟩ (by dsimp only;omega)
    ·refine qah (by omega) fun n18 hn18=>?_
     exact ihr10.use _ ⟨_,_,rfl,by omega⟩ (by dsimp only;omega)
   ·refine qaa ?_
    trivial
theorem q2w {s:SiteT}{c:Int}{phase:Int}:W (qpl s c phase) (fun _=>True):=by
 unfold qpl qkT
 refine qac fun n1 hn1=>?_
 refine W_if (fun c1=>?_) fun c1=>?_
 ·refine qaa ?_
  trivial
 ·refine W_if (fun c2=>?_) fun c2=>?_
  ·refine qaa ?_
   trivial
  ·refine qaa ?_
   trivial
theorem qur {s:SiteT}{c:Int}{l:List Lkd}{green:Int}(p0:SG s)(p1:l.length≤1000):W (qnO s c l green) (fun _=>True):=by
 unfold qnO qqN
 refine qab (q5I (by omega) (by omega)) ?_
 rintro⟨n1,n2⟩ hn1
 refine W_if (fun c1=>?_) fun c1=>?_
 ·refine qaa ?_
  trivial
 ·refine qab (q2w) ?_
  rintro n3 hn3
  refine W_if (fun c2=>?_) fun c2=>?_
  ·refine qaa ?_
   trivial
  ·refine qac fun n4 hn4=>?_
   refine qab (qeZ) ?_
   rintro n5 hn5
   refine qaa ?_
   trivial
theorem qkx {s:SiteT}{n:Int}(p0:SG s)(p1:(0≤n∧n≤1048576)):W (qeR s n) (fun r=>r=0):=by
 unfold qeR qfT
 refine qb5 (p0.ck) ?_
 refine W_if (fun c1=>?_) fun c1=>?_
 ·refine qaa ?_
  exact absurd rfl c1
 ·refine W_if (fun c2=>?_) fun c2=>?_
  ·refine qaa ?_
   omega
  ·refine qaa ?_
   rfl
theorem q0c {s:SiteT}{l:List UInt8}(p0:SG s)(p1:l.length≤1000000000):W (qkU s l) (fun r=>r=0↔l.length=s.groups.length∧FA (fun i=>La l i≤4) l.length):=by
 unfold qkU qih
 obtain⟨⟨q1,q2,q3,q4,q5,q6,q7,q8⟩,q9⟩:=p0.ok.shape
 refine W_if (fun c1=>?_) fun c1=>?_
 ·refine qaa ?_
  omega
 ·refine qaj (fun v=>∃ n4,v=((),(),l,(l.length:Int),n4,())∧(0≤n4∧n4≤(l.length:Int))∧(FA (fun i=>La l i≤4) n4)) (fun(_,_,_,_,n4,_)=>((l.length:Int)-n4).toNat) ⟨_,rfl,by omega,FA.zero⟩ (by simp only[NN];omega) ?_
  rintro r1 _ ⟨n4,rfl,hr1_0,hr1_1⟩ ihr1
  refine W_if (fun c2=>?_) fun c2=>?_
  ·refine W_ix (by omega) fun x5 hx5=>?_
   have e5:(x5.toNat:Int)=La l n4.toNat:=by rw[hx5];rfl
   refine W_if (fun c3=>?_) fun c3=>?_
   ·refine qaa ?_
    exact⟨fun h=>by omega,fun h=>absurd (h.2.all (k:=n4) (by omega)) (by omega)⟩
   ·refine qah (by omega) fun n6 hn6=>?_
    exact ihr1.use _ ⟨_,rfl,by omega,FA.succ hr1_1 (by omega) hn6 (by omega)⟩ (by dsimp only;omega)
  ·refine qaa ?_
   exact⟨fun _=>⟨by omega,fun k h=>hr1_1 k (by omega)⟩,fun _=>rfl⟩
theorem qky {s:SiteT}{n:Int}(p0:SG s)(p1:(0≤n∧n≤1048576)):W (qeT s n) (fun r=>r=(decide (n≥s.feed),0)):=by
 unfold qeT qfV
 refine qab (qkx (by omega) (by omega)) ?_
 rintro n1 hn1
 refine W_if (fun c1=>?_) fun c1=>?_
 ·refine qaa ?_
  exact absurd hn1 c1
 ·refine qaa ?_
  rfl
theorem qrg {p:Plan}:W (qdQ p) (fun r=>r=true↔p.cycle=0∧p.offset=0∧p.splits=[]):=by
 unfold qdQ qkV
 refine qaa ?_
 cases p;rename_i a b c;cases c<;>simp<;>omega
theorem qwA {s:SiteT}{r:Int}{r2:Int}{r3:Bool}(p0:SG s)(p1:(0≤r∧r≤3)∧(0≤r2∧r2≤1048576))(p2:r3=true→r=0∧r2=0):W (qi4 s r r2 r3) (fun q=>q=0):=by
 unfold qi4 qfU
 refine qb5 (p0.ck) ?_
 refine W_if (fun c1=>?_) fun c1=>?_
 ·refine qaa ?_
  exact absurd rfl c1
 ·refine W_if (fun c2=>?_) fun c2=>?_
  ·refine qaa ?_
   exfalso;rcases c2 with h|⟨h,g⟩
   · omega
   · have:=p2 h;omega
  ·refine qaa ?_
   rfl
theorem q2y {r:Int}{r2:Int}{r3:Bool}{f:Bool}{f2:Bool}{f3:Bool}{f4:Bool}:W (qpo r r2 r3 f f2 f3 f4) (fun q=>q=if r3=true∨f4=false then 0 else if f=true∧f2=true∧f3=true then 3 else if f2=true then 2 else 1):=by
 unfold qpo qkW
 refine W_if (fun c1=>?_) fun c1=>?_
 ·refine qaa ?_
  cases r3<;>cases f4<;>cases f<;>cases f2<;>cases f3<;>simp_all
 ·refine W_if (fun c2=>?_) fun c2=>?_
  ·refine qaa ?_
   cases r3<;>cases f4<;>cases f<;>cases f2<;>cases f3<;>simp_all
  ·refine W_if (fun c3=>?_) fun c3=>?_
   ·refine qaa ?_
    cases r3<;>cases f4<;>cases f<;>cases f2<;>cases f3<;>simp_all
   ·refine qaa ?_
    cases r3<;>cases f4<;>cases f<;>cases f2<;>cases f3<;>simp_all
theorem q0d {s:SiteT}{r:Int}{r2:Int}{r3:Bool}{f:Bool}{f2:Bool}{f3:Bool}{f4:Bool}(p0:(0≤r∧r≤3)∧(0≤r2∧r2≤1048576))(p1:1≤s.heal∧s.heal≤1048576)(p2:r3=true→r=0∧r2=0)(p3:r3=false→1≤r):W (qls s r r2 r3 f f2 f3 f4) (fun q=>Rung s r r2 r3 f f2 f3 f4 q.1 q.2.1 q.2.2):=by
 unfold qls qio
 refine qab (q2y) ?_
 rintro n1 hn1
 refine W_if (fun c1=>?_) fun c1=>?_
 ·refine qaa ?_
  unfold Rung;cases r3<;>cases f4<;>cases f<;>cases f2<;>cases f3<;>simp at hn1 p2 p3 ⊢<;>omega
 ·refine qah (by omega) fun n2 hn2=>?_
  refine W_if (fun c2=>?_) fun c2=>?_
  ·refine W_wb (by omega) fun n4 hn4=>?_
   refine qaa ?_
   unfold Rung;cases r3<;>cases f4<;>cases f<;>cases f2<;>cases f3<;>simp at hn1 p2 p3 ⊢<;>omega
  ·refine qah (by omega) fun n3 hn3=>?_
   refine qaa ?_
   unfold Rung;cases r3<;>cases f4<;>cases f<;>cases f2<;>cases f3<;>simp at hn1 p2 p3 ⊢<;>omega
theorem qmQ {s:SiteT}{r:Int}{r2:Int}{r3:Bool}{f:Bool}{f2:Bool}{f3:Bool}{f4:Bool}(p0:SG s)(p1:(0≤r∧r≤3)∧(0≤r2∧r2≤1048576))(p2:r3=true→r=0∧r2=0)(p3:r3=false→1≤r):W (qhr s r r2 r3 f f2 f3 f4) (fun q=>q.1=0∧Rung s r r2 r3 f f2 f3 f4 q.2.1 q.2.2.1 q.2.2.2):=by
 unfold qhr qi5
 have ht:=p0.ok.times.2.2.1
 refine qab (qwA (by omega) (by omega) (by omega)) ?_
 rintro n1 hn1
 refine W_if (fun c1=>?_) fun c1=>?_
 ·refine qaa ?_
  exact absurd hn1 c1
 ·refine qab (q0d p1 ht p2 p3) ?_
  rintro⟨n2,n3,b4⟩ hn2
  dsimp only at hn2
  refine qaa ?_
  exact⟨rfl,hn2⟩
theorem q2z {s:SiteT}{want:List UInt8}{shown:List UInt8}(p0:SG s)(p1:want.length=s.groups.length∧FA (fun i=>La want i≤4) want.length)(p2:shown.length≤1000000000):W (qpM s want shown) (fun r=>(r.2=0→(r.1=true↔shown≠[]∧shown≠want))∧(r.2≠0→shown≠[]∧shown≠want)):=by
 unfold qpM qlr
 obtain⟨⟨q1,q2,q3,q4,q5,q6,q7,q8⟩,q9⟩:=p0.ok.shape
 refine qaj (fun v=>∃ n7,v=(((want::shown::qh5),()),((s,()),()),want,shown,(↑2:Int),n7,())∧(0≤n7∧n7≤(↑2:Int))∧(2≤n7→shown=[]∨shown.length=s.groups.length)) (fun((_,_),((_,_),_),_,_,_,n7,_)=>((↑2:Int)-n7).toNat) ⟨_,rfl,by omega,by omega⟩ (by simp only[NN];omega) ?_
 rintro r1 _ ⟨n7,rfl,hr1_0,hr1_1⟩ ihr1
 have e0:n7=0→((want::shown::qh5).getD (0+n7.toNat) (dflt 6))=want:=fun h=>by subst h;rfl
 have e1:n7=1→((want::shown::qh5).getD (0+n7.toNat) (dflt 6))=shown:=fun h=>by subst h;rfl
 refine W_if (fun c1=>?_) fun c1=>?_
 ·have c01:n7=0∨n7=1:=by omega
  refine W_rb (by simp;omega) ?_
  refine qaf (by simp;omega) ?_
  refine W_if (fun c4=>?_) fun c4=>?_
  ·refine qah (by omega) fun n18 hn18=>?_
   refine W_rs rfl ?_
   exact ihr1.use _ ⟨_,rfl,by omega,fun _=>.inl (by have h:=c4.2;rw[e1 c4.1] at h;exact List.eq_nil_of_length_eq_zero (by omega))⟩ (by dsimp only;omega)
  ·refine qab (q0c p0 (by rcases c01 with h|h;rw[e0 h];omega;rw[e1 h];omega)) ?_
   rintro n16 hn16
   refine W_if (fun c6=>?_) fun c6=>?_
   ·refine qaa ?_
    refine⟨fun h=>absurd h c6,fun _=>?_⟩
    rcases c01 with h|h
    · rw[e0 h] at hn16;exact absurd (hn16.2 p1) c6
    · rw[e1 h] at hn16 c4;exact⟨fun e=>c4 ⟨h,by rw[e];rfl⟩,fun e=>c6 (hn16.2 (e▸p1))⟩
   ·refine qah (by omega) fun n17 hn17=>?_
    refine W_rs rfl ?_
    exact ihr1.use _ ⟨_,rfl,by omega,fun h2=>.inr (by have h:n7=1:=(by omega);have h3:=hn16.1 (Classical.not_not.1 c6);rw[e1 h] at h3;exact h3.1)⟩ (by dsimp only;omega)
 ·refine qaj (fun v=>∃ n12,v=((),(),want,shown,(shown.length:Int),n12,())∧(0≤n12∧n12≤(shown.length:Int))∧(FA (fun i=>La want i=La shown i) n12)) (fun(_,_,_,_,_,n12,_)=>((shown.length:Int)-n12).toNat) ⟨_,rfl,by omega,FA.zero⟩ (by simp only[NN];omega) ?_
  rintro r8 _ ⟨n12,rfl,hr8_0,hr8_1⟩ ihr8
  have e3:=hr1_1 (by omega)
  have e2:shown.length≤s.groups.length:=by rcases e3 with h|h;rw[h];simp;omega
  refine W_if (fun c8=>?_) fun c8=>?_
  ·refine W_ix (by omega) fun x13 hx13=>?_
   refine W_ix (by omega) fun x14 hx14=>?_
   have e13:(x13.toNat:Int)=La shown n12.toNat:=by rw[hx13];rfl
   have e14:(x14.toNat:Int)=La want n12.toNat:=by rw[hx14];rfl
   refine W_if (fun c9=>?_) fun c9=>?_
   ·refine qaa ?_
    exact⟨fun _=>⟨fun _=>⟨fun e=>by rw[e] at c8;simp at c8;omega,fun e=>by rw[e] at e13;omega⟩,fun _=>rfl⟩,fun h=>absurd rfl h⟩
   ·refine qah (by omega) fun n15 hn15=>?_
    exact ihr8.use _ ⟨_,rfl,by omega,FA.succ hr8_1 (by omega) hn15 (by omega)⟩ (by dsimp only;omega)
  ·refine qaa ?_
   exact⟨fun _=>⟨fun h=>by simp at h,fun h=>absurd (La_ext (by have:=e3.resolve_left h.1;omega) (fun k hk=>hr8_1 k (by have:=e3.resolve_left h.1;omega))).symm h.2⟩,fun h=>absurd rfl h⟩
theorem q5J {s:SiteT}{n:Int}{want:List UInt8}{shown:List UInt8}(p0:SG s)(p1:want.length=s.groups.length∧FA (fun i=>La want i≤4) want.length)(p2:shown.length≤1000000000)(p3:(0≤n∧n≤1048576)):W (qwp s n want shown) (fun r=>(r.2=0→(shown≠[]∧shown≠want→r.1=min (n+1) 1048576)∧(¬ (shown≠[]∧shown≠want)→r.1=0))∧(r.2≠0→shown≠[]∧shown≠want)):=by
 unfold qwp qqD
 refine qab (qkx p0 p3) ?_
 rintro n1 hn1
 refine W_if (fun c1=>?_) fun c1=>?_
 ·refine qaa ?_
  exact absurd hn1 c1
 ·refine qab (q2z (by omega) (by omega) (by omega)) ?_
  rintro⟨b2,n3⟩ hb2
  dsimp only at hb2
  refine W_if (fun c2=>?_) fun c2=>?_
  ·refine qaa ?_
   refine⟨fun h=>⟨fun g=>absurd ((hb2.1 h).2 g) (c2.resolve_left (fun e=>e h)),fun _=>rfl⟩,hb2.2⟩
  ·refine qah (by omega) fun n4 hn4=>?_
   refine qac fun n5 hn5=>?_
   refine qaa ?_
   have h3:n3=0:=Classical.not_not.1 fun h=>c2 (.inl h)
   have h2:b2=true:=Classical.not_not.1 fun h=>c2 (.inr h)
   exact⟨fun _=>⟨fun _=>by dsimp only;rw[hn5,hn4],fun h=>absurd ((hb2.1 h3).1 h2) h⟩,fun h=>absurd rfl h⟩
end Go.Proofs.YtcdppfnjidlknaaGreatDoor
namespace Go.Proofs.YtcdppfnjidlknaaGreatDoor
open Go Go.Eng Go.Proofs Go.Wp
theorem SOk.wf {s:SiteT}(h:SOk s):qfq s∧SWf s:=⟨h.shape,fun p hp=>by have:=(h.ph p hp).1;omega⟩
theorem SOk.lt {s:SiteT}(h:SOk s):∀ p∈s.phases,p.groupsf<2 ^ s.groups.length:=fun p hp=>(h.ph p hp).1.2.2
theorem scan_w (place:Int):∀ (l:List Int) (i e:Int),0≤i→i+l.length<1000000000→(qaC place l i e).2.2=0→i≤(qaC place l i e).1∧(qaC place l i e).1<i+l.length
  | [],i,e,_,_,h=>by simp[qaC] at h
  |n::r,i,e,hi,hl,h=>by
    unfold qaC at h ⊢
    cases hb:decide (place<IntKind.i64.wrap (e+n)) with
    |true=>simp only[cond_true];rw[List.length_cons];omega
    |false =>
      rw[hb] at h
      simp only[cond_false] at h ⊢
      rw[List.length_cons] at hl ⊢
      have w:IntKind.i64.wrap (i+1)=i+1:=w64 (by omega)
      rw[w] at h ⊢
      have:=scan_w place r (i+1) _ (by omega) (by omega) h
      omega
theorem q20 {p:Pls}{raw:Bool}{hold:Int}:W (qpI p raw hold) (fun _=>True):=by
 have h:W (qfC p raw hold) (fun _=>True):=by
  unfold qfC
  exact W_if (fun _=>qaa trivial) fun _=>W_if (fun _=>qaa trivial) fun _=>qaa trivial
 unfold qpI qlo
 exact qab h fun r _=>qaa trivial
theorem qus {s:SiteT}{phase:Int}(p0:SOk s)(p1:0≤phase∧phase<1000000000):W (qnp s phase) (fun r=>0≤r∧r<s.phases.length):=by
 unfold qnp qoX
 obtain⟨⟨q1,q2,q3,q4,q5,q6,q7,q8⟩,q9⟩:=p0.shape
 refine qah (by omega) fun n1 hn1=>?_
 refine qaf (by omega) ?_
 refine qac fun n2 hn2=>?_
 refine qaa ?_
 rw[hn2];exact q2D (by omega) (by omega)
theorem q5K {s:SiteT}{p:Plan}(p0:SG s)(p1:p.splits.length≤1000000):W (qhk s p) (fun r=>r.1=true→p.splits.length=s.phases.length∧s.low≤p.cycle∧p.cycle≤s.high):=by
 unfold qhk qq3
 refine qb5 (p0.ck) ?_
 refine W_if (fun c1=>?_) fun c1=>?_
 ·refine qaa ?_
  exact absurd rfl c1
 ·refine qab (que p0.ok.wf p0.ok.lt p1) ?_
  rintro b2 hb2
  refine qaa ?_
  exact hb2
theorem planAt_w {s:SiteT}{p:Plan}{tick:Int}(p0:SG s)(p1:p.splits.length≤1000000):W (qtK s p tick) (fun r=>r.2.2=0→(0≤r.1∧r.1<p.splits.length)∧p.splits.length=s.phases.length):=by
 unfold qtK qoI
 refine qaf (by omega) ?_
 obtain⟨⟨b,e⟩,g,h⟩:=q5K p0 p1
 rw[g]
 dsimp only at h ⊢
 refine W_if (fun c=>qaa fun h=>absurd h c) fun c=>W_if (fun c=>qaa fun h=>by simp at h) fun c2=>W_if (fun c=>qaa fun h=>by simp at h) fun c3=>?_
 have hh:=h (Classical.not_not.1 c2)
 have hl:=p0.ok.times.2.2.2.1.1
 refine qaf (by omega) (qaa fun h=>?_)
 have:=scan_w _ p.splits 0 0 (by omega) (by omega) h
 omega
theorem q0e {s:SiteT}:W (qkR s) (fun r=>r=((s.phases.length:Int),s)):=by
 unfold qkR qif
 refine qaa ?_
 rfl
theorem q21 {c:SiteT}{s:SiteT}{below:Unit×Unit}{l:List Int}(p0:SG s)(p1:l.length≤1000)(p2:c.phases.length≤1000):W (qq5 c s below l) (fun r=>c=r.2∧(r.1=0→c=s→∀ x∈l,0≤x∧x<s.phases.length)):=by
 unfold qq5 qlF
 obtain⟨⟨q1,q2,q3,q4,q5,q6,q7,q8⟩,q9⟩:=p0.ok.shape
 refine qb5 (p0.ck) ?_
 refine W_if (fun c1=>?_) fun c1=>?_
 ·refine qaa ?_
  exact absurd rfl c1
 ·refine qaj (fun v=>∃ x3 n6,v=((),((x3,()),()),((),()),l,(l.length:Int),n6,())∧(0≤n6∧n6≤(l.length:Int))∧(c=x3)∧(Upto (fun x:Int=>0≤x∧x<c.phases.length) l 0 n6)) (fun(_,((x3,_),_),(_,_),_,_,n6,_)=>((l.length:Int)-n6).toNat) ⟨_,_,rfl,by omega,rfl,Upto.zero⟩ (by simp only[NN];omega) ?_
  rintro r2 _ ⟨x3,n6,rfl,hr2_0,hr2_1,hr2_2⟩ ihr2
  obtain rfl:=hr2_1
  refine W_if (fun c2=>?_) fun c2=>?_
  ·refine W_ix (by omega) fun n7 hn7=>?_
   refine qab (q0e) ?_
   rintro⟨n8,x9⟩ hn8
   simp only[Prod.mk.injEq] at hn8;obtain⟨e8,e9⟩:=hn8
   refine qac fun n10 hn10=>?_
   refine qab (qaT) ?_
   rintro b11 hb11
   refine W_if (fun c3=>?_) fun c3=>?_
   ·refine qaa ?_
    exact⟨e9.symm,fun h=>by simp at h⟩
   ·refine qah (by omega) fun n12 hn12=>?_
    exact ihr2.use _ ⟨_,_,rfl,by omega,e9.symm,hr2_2.succ (by omega) hn12 (by rw[← hn7];have:=hb11.1 (by simpa using c3);have h2:n10=(c.phases.length:Int)-1:=(by rw[hn10,e8];exact w64 (by omega));omega)⟩ (by dsimp only;omega)
  ·refine qaa ?_
   exact⟨rfl,fun _ e=>e▸hr2_2.all (by omega)⟩
theorem q22 {s:SiteT}{from0:Int}{to:Int}(p0:SG s)(p1:(0≤from0∧from0<s.phases.length)∧0≤to∧to<s.phases.length):W (qqB s from0 to) (fun r=>0≤r.1):=by
 unfold qqB qlJ
 obtain⟨⟨q1,q2,q3,q4,q5,q6,q7,q8⟩,q9⟩:=p0.ok.shape
 refine qab (q21 p0 (by simp) (by omega)) ?_
 rintro⟨n1,x2⟩ hn1
 dsimp only at hn1
 obtain⟨rfl,h⟩:=hn1
 refine W_if (fun c1=>?_) fun c1=>?_
 ·refine qaa ?_
  first|omega|(dsimp only;omega)
 ·refine qab (qmM p0.ok.wf p1 p0.ok.lt) ?_
  rintro n3 hn3
  refine qaa ?_
  first|omega|(dsimp only;omega)
theorem qrh {s:SiteT}{phase:Int}(p0:SG s)(p1:0≤phase∧phase<s.phases.length):W (qkg s phase) (fun r=>0≤r):=by
 unfold qkg qlK
 obtain⟨⟨q1,q2,q3,q4,q5,q6,q7,q8⟩,q9⟩:=p0.ok.shape
 refine qab (qus p0.ok (by omega)) ?_
 rintro n1 hn1
 refine qab (q22 p0 ⟨p1,hn1⟩) ?_
 rintro⟨n2,n3⟩ hn2
 dsimp only at hn2
 refine qaa ?_
 first|omega|simp|trivial
theorem qri {s:SiteT}{p:Plan}{tick:Int}(p0:SG s)(p1:p.splits.length≤1000000):W (qkj s p tick) (fun r=>0≤r.1∧r.1<s.phases.length):=by
 unfold qkj qlM
 obtain⟨⟨q1,q2,q3,q4,q5,q6,q7,q8⟩,q9⟩:=p0.ok.shape
 refine qab (planAt_w p0 p1) ?_
 rintro⟨n1,n2,n3⟩ hn1
 dsimp only at hn1
 refine W_if (fun c1=>?_) fun c1=>?_
 ·refine qaa ?_
  first|(dsimp only;omega)|exact hn7|(have:=hn1 (Classical.not_not.1 c1);dsimp only;omega)
 ·refine W_ix (by omega) fun n4 hn4=>?_
  have e1:=hn1 (Classical.not_not.1 c1)
  refine qab (qrh p0 (by have:=hn1 (Classical.not_not.1 c1);omega)) ?_
  rintro n5 hn5
  refine qac fun n6 hn6=>?_
  refine W_if (fun c2=>?_) fun c2=>?_
  ·refine qab (qus p0.ok (by have:=hn1 (Classical.not_not.1 c1);omega)) ?_
   rintro n7 hn7
   refine qaa ?_
   first|(dsimp only;omega)|exact hn7|(have:=hn1 (Classical.not_not.1 c1);dsimp only;omega)
  ·refine qaa ?_
   first|(dsimp only;omega)|exact hn7|(have:=hn1 (Classical.not_not.1 c1);dsimp only;omega)
theorem q23 {s:SiteT}{calls:Int}(p0:s.phases.length≤1000):W (qdR s calls) (fun _=>True):=by
 unfold qdR qkX
 refine qaj (fun v=>∃ n3 n6,v=((),(),calls,n3,s.phases,(s.phases.length:Int),n6,())∧(0≤n6∧n6≤(s.phases.length:Int))) (fun(_,_,_,n3,_,_,n6,_)=>((s.phases.length:Int)-n6).toNat) ⟨_,_,rfl,by omega⟩ (by simp only[NN];omega) ?_
 rintro r1 _ ⟨n3,n6,rfl,hr1_0⟩ ihr1
 refine W_if (fun c1=>?_) fun c1=>?_
 ·refine W_ix (by omega) fun x7 hx7=>?_
  refine qaf (by omega) ?_
  refine qac fun n8 hn8=>?_
  refine qac fun n9 hn9=>?_
  refine W_if (fun c3=>?_) fun c3=>?_
  ·refine qaf (by omega) ?_
   refine qac fun n11 hn11=>?_
   refine qac fun n12 hn12=>?_
   refine qah (by omega) fun n13 hn13=>?_
   exact ihr1.use _ ⟨_,_,rfl,by omega⟩ (by dsimp only;omega)
  ·refine qah (by omega) fun n10 hn10=>?_
   exact ihr1.use _ ⟨_,_,rfl,by omega⟩ (by dsimp only;omega)
 ·refine qaa ?_
  trivial
theorem q24 {s:SiteT}{phase:Int}(p0:SOk s)(p1:0≤phase∧phase<s.phases.length):W (qpP s phase) (fun r=>r.length=s.groups.length∧FA (fun i=>La r i=1∨La r i=2) s.groups.length):=by
 unfold qpP qlt
 obtain⟨⟨q1,q2,q3,q4,q5,q6,q7,q8⟩,q9⟩:=p0.shape
 refine qwK (by omega) ?_
 refine W_rs (by simp) ?_
 refine qaj (fun v=>∃ z2 n6,v=((z2,()),((s,()),()),phase,(↑(s.groups.length:Int).toNat:Int),n6,())∧(0≤n6∧n6≤(↑(s.groups.length:Int).toNat:Int))∧(z2.length=s.groups.length)∧(FA (fun i=>La z2 i=1∨La z2 i=2) n6)) (fun((z2,_),((_,_),_),_,_,n6,_)=>((↑(s.groups.length:Int).toNat:Int)-n6).toNat) ⟨_,_,rfl,by omega,by simp,FA.zero⟩ (by simp only[NN];omega) ?_
 rintro r1 _ ⟨z2,n6,rfl,hr1_0,hr1_1,hr1_2⟩ ihr1
 refine W_if (fun c3=>?_) fun c3=>?_
 ·refine W_rb (by omega) ?_
  refine qaf (by omega) ?_
  refine qac fun z7 hz7=>?_
  have sl:=qzX (a:=1) (by omega) hz7 (by omega)
  refine qab (qre (by omega) (by omega)) ?_
  rintro b8 hb8
  refine W_if (fun c6=>?_) fun c6=>?_
  ·refine W_rb (by omega) ?_
   refine qaf (by omega) ?_
   refine qac fun z10 hz10=>?_
   have sm:=qzX (a:=2) (by omega) hz10 (by omega)
   refine qah (by omega) fun n11 hn11=>?_
   refine W_rs (by omega) ?_
   exact ihr1.use _ ⟨_,_,rfl,by omega,by omega,FA.succ (fun k hk=>by rw[sm.2.1 k (by omega),sl.2.1 k (by omega)];exact hr1_2 k hk) (by omega) hn11 (.inr sm.1)⟩ (by dsimp only;omega)
  ·refine qah (by omega) fun n9 hn9=>?_
   refine W_rs (by omega) ?_
   exact ihr1.use _ ⟨_,_,rfl,by omega,by omega,FA.succ (fun k hk=>by rw[sl.2.1 k (by omega)];exact hr1_2 k hk) (by omega) hn9 (.inl sl.1)⟩ (by dsimp only;omega)
 ·refine W_rs rfl ?_
  refine qaa ?_
  exact⟨hr1_1,fun k hk=>hr1_2 k (by omega)⟩
theorem q8v {n:Int}:W (fixOf n) (fun r=>True):=by
 unfold fixOf q74
 refine qac fun n1 hn1=>?_
 refine qac fun n2 hn2=>?_
 refine qac fun n3 hn3=>?_
 refine qaa ?_
 trivial
theorem qkz {x:Int}:W (qkZ x) (fun r=>True):=by
 unfold qkZ qvz
 refine qac fun n1 hn1=>?_
 refine qac fun n2 hn2=>?_
 refine qaa ?_
 trivial
theorem fixDiv_w {a:Int}{b:Int}:W (q7D a b) (fun r=>True):=by
 unfold q7D q1v
 refine qab (qkz) ?_
 rintro n1 hn1
 refine qab (qkz) ?_
 rintro n2 hn2
 refine W_if (fun c1=>?_) fun c1=>?_
 ·refine qaa ?_
  trivial
 ·refine qac fun n3 hn3=>?_
  refine qaf (by omega) ?_
  refine qac fun n4 hn4=>?_
  refine qaf (by omega) ?_
  refine qac fun n5 hn5=>?_
  refine W_if (fun c4=>?_) fun c4=>?_
  ·refine qac fun n7 hn7=>?_
   refine qab (qkz) ?_
   rintro n8 hn8
   refine qaa ?_
   trivial
  ·refine qab (qkz) ?_
   rintro n6 hn6
   refine qaa ?_
   trivial
theorem q25 {s:SiteT}(p0:SG s):W (qq7 s) (fun r=>r.1=0∧IsG s r.2.2.1∧r.2.1=List.replicate s.groups.length ⟨1,1,1048576⟩∧r.2.2.2=false):=by
 unfold qq7 qlG
 refine qb5 (p0.ck) ?_
 refine W_if (fun c1=>?_) fun c1=>?_
 ·refine qaa ?_
  exact absurd rfl c1
 ·refine qab (qzS p0.ok) ?_
  rintro⟨z2,n3,b4⟩ hz2
  dsimp only at hz2
  refine qaa ?_
  exact⟨rfl,hz2⟩
theorem q26 {now:List SeenT}{now2:Int}{now3:Bool}{s:SiteT}:W (qpv now now2 now3 s) (fun r=>(now,now2,now3,s)=r.2∧(r.1=0→now.length=s.groups.length)):=by
 unfold qpv qlb
 refine W_if (fun c1=>?_) fun c1=>?_
 ·refine qaa ?_
  exact⟨rfl,fun h=>by simp at h⟩
 ·refine qaa ?_
  exact⟨rfl,fun _=>by omega⟩
theorem q27 {now:List SeenT}{now2:Int}{now3:Bool}{s:SiteT}{s2:SiteT}{phase:Int}{ahead:Unit×Unit}(p0:SG s2):W (qq8 now now2 now3 s s2 phase ahead) (fun r=>(now,now2,now3,s)=r.2∧(r.1=0→now.length=s.groups.length∧0≤phase∧phase<s2.phases.length)):=by
 unfold qq8 qlH
 refine qb5 (p0.ck) ?_
 refine W_if (fun c1=>?_) fun c1=>?_
 ·refine qaa ?_
  exact absurd rfl c1
 ·refine qab (q26) ?_
  rintro⟨n2,z3,n4,b5,x6⟩ hn2
  dsimp only at hn2
  obtain⟨h1,h2⟩:=hn2;simp only[Prod.mk.injEq] at h1;obtain⟨rfl,rfl,rfl,rfl⟩:=h1
  refine W_if (fun c2=>?_) fun c2=>?_
  ·refine qaa ?_
   exact⟨rfl,fun h=>absurd h c2⟩
  ·refine W_if (fun c3=>?_) fun c3=>?_
   ·refine qaa ?_
    exact⟨rfl,fun h=>by simp at h⟩
   ·refine qaa ?_
    exact⟨rfl,fun _=>⟨h2 (Classical.not_not.1 c2),by omega,by omega⟩⟩
theorem qlT {s:SiteT}{now:List SeenT}{now2:Int}{now3:Bool}{phase:Int}(p0:SG s)(p1:now.length≤1000):W (qd6 s now now2 now3 phase) (fun _=>True):=by
 unfold qd6 qqG
 refine qab (q27 (by omega)) ?_
 rintro⟨n1,z2,n3,b4,x5⟩ hn1
 dsimp only at hn1
 obtain⟨h1,h2⟩:=hn1;simp only[Prod.mk.injEq] at h1;obtain⟨rfl,rfl,rfl,rfl⟩:=h1
 refine W_if (fun c1=>?_) fun c1=>?_
 ·refine qab (q2v (h2 c1).2 (by omega)) ?_
  rintro b6 hb6
  refine qaa ?_
  trivial
 ·refine qaa ?_
  trivial
theorem q28:W (qpw ) (fun r=>r=0):=by
 unfold qpw qlc
 refine qaa ?_
 rfl
theorem q29 {s:SiteT}{phase:Int}{ahead:Unit×Unit}(p0:SG s):W (qq9 s phase ahead) (fun r=>r=0↔0≤phase∧phase<s.phases.length):=by
 unfold qq9 qlI
 refine qb5 (p0.ck) ?_
 refine W_if (fun c1=>?_) fun c1=>?_
 ·refine qaa ?_
  exact absurd rfl c1
 ·refine qab (q28) ?_
  rintro n2 hn2
  refine W_if (fun c2=>?_) fun c2=>?_
  ·refine qaa ?_
   omega
  ·refine W_if (fun c3=>?_) fun c3=>?_
   ·refine qaa ?_
    omega
   ·refine qaa ?_
    omega
theorem qef {s:SiteT}{phase:Int}(p0:SG s):W (qaH s phase) (fun r=>(0≤phase∧phase<s.phases.length)→r.1.length=s.groups.length∧FA (fun i=>La r.1 i=1∨La r.1 i=2) s.groups.length):=by
 unfold qaH qqH
 refine qab (q29 (by omega)) ?_
 rintro n1 hn1
 refine W_if (fun c1=>?_) fun c1=>?_
 ·refine qaa ?_
  exact fun h=>absurd (hn1.2 h) c1
 ·refine qab (q24 p0.ok (hn1.1 (Classical.not_not.1 c1))) ?_
  rintro z2 hz2
  refine qaa ?_
  intro _;dsimp only;rw[List.take_length];exact hz2
theorem qgg {x:Int}(p0:0≤x∧x<18446744073709551616):W (qay x) (fun r=>0≤r∧r≤64):=by
 unfold qay
 exact qaf p0.1 (qaf p0.2 (qaa (by have:=q7j 64 x.toNat (by omega);omega)))
theorem q2A {l:Int}{phase:Int}{many:Int}(p0:1≤many∧many≤1000)(p1:0≤phase∧phase<1000):W (qdV l phase many) (fun r=>0≤r∧r<many):=by
 unfold qdV qlv
 refine qac fun n1 hn1=>?_
 refine qac fun n2 hn2=>?_
 refine qaf (by omega) ?_
 refine qac fun n3 hn3=>?_
 refine qac fun n4 hn4=>?_
 have g4:=q8y .or n1 n3
 rw[← hn4] at g4
 refine qah (by omega) fun n5 hn5=>?_
 refine qah (by omega) fun n6 hn6=>?_
 refine qaf (by omega) ?_
 refine qac fun n7 hn7=>?_
 have g7:0≤n7∧n7<18446744073709551616:=by
  rw[hn7]
  have hp:(0:Int)<2 ^ min n6.toNat IntKind.u64.bits:=Int.pow_pos (by omega)
  rw[Int.fdiv_eq_ediv_of_nonneg _ (by omega)]
  exact⟨Int.ediv_nonneg g4.1 (by omega),Int.lt_of_le_of_lt (Int.ediv_le_self _ g4.1) g4.2⟩
 refine qab (qgg (by omega)) ?_
 rintro n8 hn8
 refine W_wi (by omega) fun n9 hn9=>?_
 refine qaf (by omega) ?_
 refine qac fun n10 hn10=>?_
 refine qaa ?_
 rw[hn10];exact q2D (by omega) (by omega)
end Go.Proofs.YtcdppfnjidlknaaGreatDoor
namespace Go.Proofs.YtcdppfnjidlknaaGreatDoor
open Go Go.Eng Go.Proofs Go.Wp
theorem q8w {s:SiteT}{q:Int}{q2:Int}{now:List SeenT}{now2:Int}{now3:Bool}{calls:Int}{gaps:Int}(p0:SG s)(p1:(0≤q∧q<s.phases.length)∧(0≤q2∧q2≤1048576))(p2:now.length=s.groups.length):W (q1T s q q2 now now2 now3 calls gaps) (fun r=>(r.1.length=s.groups.length∧FA (fun i=>La r.1 i=1∨La r.1 i=2) s.groups.length)∧(0≤r.2.2.1∧r.2.2.1<s.phases.length)∧(0≤r.2.2.2∧r.2.2.2≤1048576)):=by
 unfold q1T qwu
 obtain⟨⟨q1,q2x,q3,q4,q5,q6,q7,q8⟩,q9⟩:=p0.ok.shape
 refine qb5 (p0.ck) ?_
 refine W_if (fun c1=>?_) fun c1=>?_
 ·exact absurd rfl c1
 ·refine W_if (fun c2=>?_) fun c2=>?_
  ·exfalso;omega
  ·refine W_if (fun c3=>?_) fun c3=>?_
   ·exfalso;omega
   ·refine W_if (fun c4=>?_) fun c4=>?_
    ·exfalso;omega
    ·refine W_if (fun c5=>?_) fun c5=>?_
     ·exfalso;omega
     ·refine W_if (fun c6=>?_) fun c6=>?_
      ·exfalso;omega
      ·refine qab (qlT (by omega) (by omega)) ?_
       rintro⟨b2,n3⟩ hb2
       refine W_if (fun c7=>?_) fun c7=>?_
       ·refine qab (qef (by omega)) ?_
        rintro⟨z17,n18⟩ hz17
        dsimp only at hz17
        refine qaa ?_
        exact⟨hz17 p1.1,p1.1,by dsimp only;omega⟩
       ·refine W_ix (by omega) fun x4 hx4=>?_
        refine qah (by omega) fun n5 hn5=>?_
        refine qac fun n6 hn6=>?_
        refine qaf (by omega) ?_
        refine qac fun n7 hn7=>?_
        refine qab (q23 (by omega)) ?_
        rintro n8 hn8
        refine qac fun n9 hn9=>?_
        refine qaf (by omega) ?_
        refine qac fun n10 hn10=>?_
        refine qac fun n11 hn11=>?_
        refine W_if (fun c10=>?_) fun c10=>?_
        ·refine qab (q2A (by omega) (by omega)) ?_
         rintro n14 hn14
         refine qab (qef (by omega)) ?_
         rintro⟨z15,n16⟩ hz15
         dsimp only at hz15
         refine qaa ?_
         exact⟨hz15 hn14,hn14,by dsimp only;omega⟩
        ·refine qab (qef (by omega)) ?_
         rintro⟨z12,n13⟩ hz12
         dsimp only at hz12
         refine qaa ?_
         exact⟨hz12 p1.1,p1.1,by dsimp only;omega⟩
theorem growN_w {n:Int}(p0:0≤n∧n≤1000000):W (growN n) (fun r=>r.1=0∧(n=0→r.2=[])):=by
 unfold growN q75
 refine W_if (fun c1=>?_) fun c1=>?_
 ·exfalso;omega
 ·refine W_wi (by omega) fun n1 hn1=>?_
  refine W_wi (by omega) fun n2 hn2=>?_
  refine W_if (fun c2=>?_) fun c2=>?_
  ·refine qaf (by omega) ?_
   refine qaf (by omega) ?_
   refine qac fun z3 hz3=>?_
   refine qaa ?_
   exact⟨rfl,fun h=>by omega⟩
  ·refine qaa ?_
   exact⟨rfl,fun _=>rfl⟩
theorem qrQ {slices:List (List UInt8)}(p0:slices.length≤100)(p1:slices.flatten.length≤1000000):W (qfM slices) (fun r=>r=slices.flatten):=by
 unfold qfM qeC
 have cs:=q43 (l:=slices) (Nat.le_refl _)
 have clen:=qh4 (l:=slices)
 refine qaj (fun v=>∃ n3 n6,v=((),(),slices,n3,slices,(slices.length:Int),n6,())∧(0≤n6∧n6≤(slices.length:Int))∧(n3=(catL slices n6.toNat).length)) (fun(_,_,_,n3,_,_,n6,_)=>((slices.length:Int)-n6).toNat) ⟨_,_,rfl,by omega,by simp[catL]⟩ (by simp only[NN];omega) ?_
 rintro r1 _ ⟨n3,n6,rfl,hr1_0,hr1_1⟩ ihr1
 have jl:=clen n6.toNat
 refine W_if (fun c1=>?_) fun c1=>?_
 ·refine W_ix (by omega) fun z18 hz18=>?_
  have j:=qgj (l:=slices) (i:=n6.toNat) (by omega)
  rw[← hz18] at j
  have j1:=congrArg List.length j;rw[List.length_append] at j1
  have j2:=clen (n6.toNat+1)
  refine W_wi (by omega) fun n19 hn19=>?_
  refine W_if (fun c2=>?_) fun c2=>?_
  ·exfalso;omega
  ·refine qah (by omega) fun n20 hn20=>?_
   exact ihr1.use _ ⟨_,_,rfl,by omega,by rw[show n20.toNat=n6.toNat+1 by omega];omega⟩ (by dsimp only;omega)
 ·rw[show n6.toNat=slices.length by omega,cs] at hr1_1
  refine qab (growN_w (by omega)) ?_
  rintro⟨x7,z8⟩ hx7
  dsimp only at hx7
  refine qaj (fun v=>∃ z10 x11 n14,v=((z10,()),(),x11,slices,(slices.length:Int),n14,())∧(0≤n14∧n14≤(slices.length:Int))∧(x11=(catL slices n14.toNat).length)∧(z10.take x11=catL slices n14.toNat)∧(z10=catL slices n14.toNat∨n14=0∧n3≠0)) (fun((z10,_),_,x11,_,_,n14,_)=>((slices.length:Int)-n14).toNat) ⟨_,_,_,rfl,by omega,by rw[hx7.1];simp[catL],by rw[hx7.1];simp[catL],(by by_cases h:n3=0;exact .inl (by rw[hx7.2 h];simp[catL]);exact .inr ⟨rfl,h⟩)⟩ (by simp only[NN];omega) ?_
  rintro r9 _ ⟨z10,x11,n14,rfl,hr9_0,hr9_1,hr9_2,hr9_3⟩ ihr9
  have jl:=clen n14.toNat
  refine W_if (fun c3=>?_) fun c3=>?_
  ·refine W_ix (by omega) fun z15 hz15=>?_
   have j:=qgj (l:=slices) (i:=n14.toNat) (by omega)
   rw[← hz15] at j
   have j1:=congrArg List.length j;rw[List.length_append] at j1
   have j2:=clen (n14.toNat+1)
   refine W_rm (by omega) ?_
   refine qac fun z16 hz16=>?_
   have e16:z16=catL slices (n14.toNat+1):=by rw[hz16,hr9_2,← j]
   refine qah (by omega) fun n17 hn17=>?_
   exact ihr9.use _ ⟨_,_,_,rfl,by omega,by rw[show n17.toNat=n14.toNat+1 by omega];omega,by rw[show n17.toNat=n14.toNat+1 by omega,e16,List.take_of_length_le (by omega)],.inl (by rw[show n17.toNat=n14.toNat+1 by omega];exact e16)⟩ (by dsimp only;omega)
  ·have e10:z10=catL slices n14.toNat:=by
    rcases hr9_3 with h|h
    · exact h
    · exfalso
      have:slices=[]:=List.eq_nil_of_length_eq_zero (by omega)
      rw[this] at hr1_1;simp at hr1_1;omega
   have l10:=congrArg List.length e10
   refine W_rs (by omega) ?_
   refine qaa ?_
   rw[e10,show n14.toNat=slices.length by omega,cs]
theorem qiB {s:SiteT}{p:Plan}(p0:SG s)(p1:p.splits.length≤1000000):W (qdb s p) (fun r=>r.1=0∧r.2.splits.length=s.phases.length):=by
 unfold qdb qlN
 obtain⟨⟨q1,q2x,q3,q4,q5,q6,q7,q8⟩,q9⟩:=p0.ok.shape
 have tl:=p0.ok.times.2.2.2
 obtain⟨⟨t1,t2⟩,⟨t3,t4⟩,t5⟩:=tl
 refine qb5 (p0.ck) ?_
 refine W_if (fun c1=>?_) fun c1=>?_
 ·exact absurd rfl c1
 ·refine qac fun n2 hn2=>?_
  refine qac fun n3 hn3=>?_
  refine qaf (by omega) ?_
  refine qac fun n4 hn4=>?_
  refine qac fun n5 hn5=>?_
  refine qaf (by omega) ?_
  refine qac fun n6 hn6=>?_
  refine qwK (by omega) ?_
  refine W_rs (by simp) ?_
  refine qaj (fun v=>∃ z8 z9 n15 n16 n17 n20,v=((z8,z9,()),((n3,n6,()),(s,()),(p,()),(({cycle:=(0:Int),offset:=(0:Int),splits:=qfr:Plan}),()),()),n15,n16,n17,s.phases,(s.phases.length:Int),n20,())∧(0≤n20∧n20≤(s.phases.length:Int))∧((z8.length:Int)=n20)∧(z9.length=s.phases.length)∧(-1≤n17∧n17<s.phases.length)) (fun((z8,z9,_),((_,_,_),(_,_),(_,_),(_,_),_),n15,n16,n17,_,_,n20,_)=>((s.phases.length:Int)-n20).toNat) ⟨_,_,_,_,_,_,rfl,by omega,by simp,by simp,by omega⟩ (by simp only[NN];omega) ?_
  rintro r7 _ ⟨z8,z9,n15,n16,n17,n20,rfl,hr7_0,hr7_1,hr7_2,hr7_3⟩ ihr7
  refine W_if (fun c6=>?_) fun c6=>?_
  ·refine W_ix (by omega) fun x46 hx46=>?_
   refine qab (qrh p0 (by omega)) ?_
   rintro n47 hn47
   refine qac fun n48 hn48=>?_
   refine W_if (fun c7=>?_) fun c7=>?_
   ·refine W_ix (by omega) fun n60 hn60=>?_
    refine qac fun n61 hn61=>?_
    refine qac fun n62 hn62=>?_
    refine qac fun n63 hn63=>?_
    refine qac fun n64 hn64=>?_
    refine W_rb (by omega) ?_
    refine qaf (by omega) ?_
    refine qac fun z65 hz65=>?_
    have lz65:=congrArg List.length hz65;try simp at lz65
    have m65:z65.length=z9.length:=by rw[hz65,List.length_set]
    refine W_rb (by omega) ?_
    refine qaf (by omega) ?_
    refine qac fun n66 hn66=>?_
    refine W_if (fun c12=>?_) fun c12=>?_
    ·refine W_rb (by omega) ?_
     refine qaf (by omega) ?_
     refine qac fun n72 hn72=>?_
     refine qac fun n73 hn73=>?_
     refine qac fun n74 hn74=>?_
     refine W_rm (by omega) ?_
     refine qac fun z75 hz75=>?_
     have lz75:=congrArg List.length hz75;try simp at lz75
     refine qah (by omega) fun n76 hn76=>?_
     refine W_rs (by omega) ?_
     refine W_rs (by omega) ?_
     exact ihr7.use _ ⟨_,_,_,_,_,_,rfl,by omega,by omega,by omega,by omega⟩ (by dsimp only;omega)
    ·refine W_rb (by omega) ?_
     refine qaf (by omega) ?_
     refine qac fun n67 hn67=>?_
     refine qac fun n68 hn68=>?_
     refine qac fun n69 hn69=>?_
     refine W_rm (by omega) ?_
     refine qac fun z70 hz70=>?_
     have lz70:=congrArg List.length hz70;try simp at lz70
     refine qah (by omega) fun n71 hn71=>?_
     refine W_rs (by omega) ?_
     refine W_rs (by omega) ?_
     exact ihr7.use _ ⟨_,_,_,_,_,_,rfl,by omega,by omega,by omega,by omega⟩ (by dsimp only;omega)
   ·refine W_rb (by omega) ?_
    refine qaf (by omega) ?_
    refine qac fun n49 hn49=>?_
    refine W_if (fun c25=>?_) fun c25=>?_
    ·refine W_rb (by omega) ?_
     refine qaf (by omega) ?_
     refine qac fun n55 hn55=>?_
     refine qac fun n56 hn56=>?_
     refine qac fun n57 hn57=>?_
     refine W_rm (by omega) ?_
     refine qac fun z58 hz58=>?_
     have lz58:=congrArg List.length hz58;try simp at lz58
     refine qah (by omega) fun n59 hn59=>?_
     refine W_rs (by omega) ?_
     refine W_rs rfl ?_
     exact ihr7.use _ ⟨_,_,_,_,_,_,rfl,by omega,by omega,by omega,by omega⟩ (by dsimp only;omega)
    ·refine W_rb (by omega) ?_
     refine qaf (by omega) ?_
     refine qac fun n50 hn50=>?_
     refine qac fun n51 hn51=>?_
     refine qac fun n52 hn52=>?_
     refine W_rm (by omega) ?_
     refine qac fun z53 hz53=>?_
     have lz53:=congrArg List.length hz53;try simp at lz53
     refine qah (by omega) fun n54 hn54=>?_
     refine W_rs (by omega) ?_
     refine W_rs rfl ?_
     exact ihr7.use _ ⟨_,_,_,_,_,_,rfl,by omega,by omega,by omega,by omega⟩ (by dsimp only;omega)
  ·refine W_rs rfl ?_
   refine W_rs rfl ?_
   refine qaj (fun v=>∃ z22 n30 n32,v=((z22,z9,()),((n3,n6,()),(({cycle:=(0:Int),offset:=(0:Int),splits:=qfr:Plan}),()),()),n15,n16,n17,n30,(z8.length:Int),n32,())∧(0≤n32∧n32≤(z8.length:Int))∧(z22.length=s.phases.length)) (fun((z22,_,_),((_,_,_),(_,_),_),_,_,_,n30,_,n32,_)=>((z8.length:Int)-n32).toNat) ⟨_,_,_,rfl,by omega,by omega⟩ (by simp only[NN];omega) ?_
   rintro r21 _ ⟨z22,n30,n32,rfl,hr21_0,hr21_1⟩ ihr21
   refine W_if (fun c38=>?_) fun c38=>?_
   ·refine W_if (fun c39=>?_) fun c39=>?_
    ·refine W_rb (by omega) ?_
     refine qaf (by omega) ?_
     refine qac fun n38 hn38=>?_
     refine qac fun n39 hn39=>?_
     refine qaf (by omega) ?_
     refine qac fun n40 hn40=>?_
     refine W_rb (by omega) ?_
     refine qaf (by omega) ?_
     refine qac fun n41 hn41=>?_
     refine qac fun n42 hn42=>?_
     refine W_rb (by omega) ?_
     refine qaf (by omega) ?_
     refine qac fun z43 hz43=>?_
     have lz43:=congrArg List.length hz43;try simp at lz43
     have m43:z43.length=z22.length:=by rw[hz43,List.length_set]
     refine qac fun n44 hn44=>?_
     refine qah (by omega) fun n45 hn45=>?_
     refine W_rs (by omega) ?_
     refine W_rs rfl ?_
     exact ihr21.use _ ⟨_,_,_,rfl,by omega,by omega⟩ (by dsimp only;omega)
    ·refine qah (by omega) fun n37 hn37=>?_
     refine W_rs rfl ?_
     refine W_rs rfl ?_
     exact ihr21.use _ ⟨_,_,_,rfl,by omega,by omega⟩ (by dsimp only;omega)
   ·refine qac fun n33 hn33=>?_
    refine W_rb (by omega) ?_
    refine qaf (by omega) ?_
    refine qac fun n34 hn34=>?_
    refine qac fun n35 hn35=>?_
    refine W_rb (by omega) ?_
    refine qaf (by omega) ?_
    refine qac fun z36 hz36=>?_
    have lz36:=congrArg List.length hz36;try simp at lz36
    have m36:z36.length=z22.length:=by rw[hz36,List.length_set]
    refine qaa ?_
    exact⟨rfl,by dsimp only;rw[List.length_take];omega⟩
theorem qk0 {d:List UInt8}{l:List Put}{whole:Int}{torn:Int}(p0:d.length≤1000000)(p1:l.length≤1000∧∀ p∈l,p.data.length=64)(p2:0≤torn):W (ql5 d l whole torn) (fun r=>r.1.length≤1000000):=by
 unfold ql5 qgZ
 have mE:∀ a b:Nat,a.min b=min a b:=fun _ _=>rfl
 refine qab (qgd (by omega)) ?_
 rintro n1 hn1
 refine W_if (fun c1=>?_) fun c1=>?_
 ·refine W_if (fun c2=>?_) fun c2=>?_
  ·refine qaa ?_
   first|(simp;done)|(dsimp only;rw[List.take_length];omega)
  ·refine qaa ?_
   first|(simp;done)|(dsimp only;rw[List.take_length];omega)
 ·refine qaj (fun v=>∃ n3 n11,v=((),((n3,()),(qam,()),(d,()),()),l,whole,torn,l,(l.length:Int),n11,())∧(0≤n11∧n11≤(l.length:Int))∧(n3=0)∧(Upto (fun x:Put=>0≤x.n∧x.n*64+64≤d.length) l (dflt 9) n11)) (fun(_,((n3,_),(_,_),(_,_),_),_,_,_,_,_,n11,_)=>((l.length:Int)-n11).toNat) ⟨_,_,rfl,by omega,by omega,Upto.zero⟩ (by simp only[NN];omega) ?_
  rintro r2 _ ⟨n3,n11,rfl,hr2_0,hr2_1,hr2_2⟩ ihr2
  refine W_if (fun c3=>?_) fun c3=>?_
  ·refine W_ix (by omega) fun x44 hx44=>?_
   refine qab (qmN (by omega)) ?_
   rintro n45 hn45
   refine W_if (fun c4=>?_) fun c4=>?_
   ·refine W_if (fun c5=>?_) fun c5=>?_
    ·refine qaa ?_
     first|(simp;done)|(dsimp only;rw[List.take_length];omega)
    ·refine qaa ?_
     first|(simp;done)|(dsimp only;rw[List.take_length];omega)
   ·refine W_if (fun c6=>?_) fun c6=>?_
    ·refine qaa ?_
     first|(simp;done)|(dsimp only;rw[List.take_length];omega)
    ·refine qah (by omega) fun n46 hn46=>?_
     exact ihr2.use _ ⟨_,_,rfl,by omega,by omega,hr2_2.succ (by omega) hn46 (by rw[← hx44];exact(hn45.1 (by omega)).2)⟩ (by dsimp only;omega)
  ·refine W_if (fun c7=>?_) fun c7=>?_
   ·refine qaa ?_
    first|(simp;done)|(dsimp only;rw[List.take_length];omega)
   ·refine qab (qd8 (by omega)) ?_
    rintro z12 hz12
    refine W_rs rfl ?_
    refine qaj (fun v=>∃ z14 n20,v=((z14,()),((n3,()),(),()),whole,torn,l,(l.length:Int),n20,())∧(0≤n20∧n20≤(l.length:Int))∧(z14.length=d.length)) (fun((z14,_),((_,_),_,_),_,_,_,_,n20,_)=>((l.length:Int)-n20).toNat) ⟨_,_,rfl,by omega,by rw[hz12]⟩ (by simp only[NN];omega) ?_
    rintro r13 _ ⟨z14,n20,rfl,hr13_0,hr13_1⟩ ihr13
    refine W_if (fun c9=>?_) fun c9=>?_
    ·refine W_ix (by omega) fun x21 hx21=>?_
     have a21:=qaq (d:=dflt 9) (n:=n20) (hr2_2.all (by omega)) (by omega)
     rw[← hx21] at a21
     have b21:=qaq (d:=dflt 9) (n:=n20) p1.2 (by omega)
     rw[← hx21] at b21
     refine W_if (fun c10=>?_) fun c10=>?_
     ·refine W_sm ?_
      refine W_wi (by omega) fun n35 hn35=>?_
      refine qaf (by omega) ?_
      refine qaf (by omega) ?_
      refine qaf (by omega) ?_
      refine qac fun z36 hz36=>?_
      have mz36:z36.length=d.length:=by rw[hz36];simp only[List.length_append,List.length_take,List.length_drop,mE];omega
      refine qah (by omega) fun n37 hn37=>?_
      refine W_rs (by omega) ?_
      exact ihr13.use _ ⟨_,_,rfl,by omega,by omega⟩ (by dsimp only;omega)
     ·refine W_if (fun c15=>?_) fun c15=>?_
      ·refine W_sm ?_
       refine W_wi (by omega) fun n23 hn23=>?_
       refine qaf (by omega) ?_
       refine qaf (by omega) ?_
       refine qaf (by omega) ?_
       refine qaf (by omega) ?_
       refine qaf (by omega) ?_
       refine qac fun z24 hz24=>?_
       have mz24:z24.length=d.length:=by rw[hz24];simp only[List.length_append,List.length_take,List.length_drop,mE];omega
       refine qah (by omega) fun n25 hn25=>?_
       refine W_rs (by omega) ?_
       exact ihr13.use _ ⟨_,_,rfl,by omega,by omega⟩ (by dsimp only;omega)
      ·refine qah (by omega) fun n22 hn22=>?_
       refine W_rs rfl ?_
       exact ihr13.use _ ⟨_,_,rfl,by omega,by omega⟩ (by dsimp only;omega)
    ·refine W_if (fun c23=>?_) fun c23=>?_
     ·refine qaa ?_
      first|(simp;done)|(dsimp only;rw[List.take_length];omega)
     ·refine qaa ?_
      first|(simp;done)|(dsimp only;rw[List.take_length];omega)
end Go.Proofs.YtcdppfnjidlknaaGreatDoor
namespace Go.Proofs.YtcdppfnjidlknaaGreatDoor
open Go Go.Eng Go.Proofs Go.Wp
def Cn (l:List Int)(n:Nat):Prop:=l.length=n∧∀ x∈l,0≤x∧x≤1048576
structure LOk (s:SiteT) (x:LocT):Prop where
  disk:x.disk.length≤1000000
  now:qb4 s x.seen x.start x.flashed
  rung:(0≤x.mode∧x.mode≤3)∧0≤x.well∧x.well≤1048576
  lat:(x.latched=true→x.mode=0∧x.well=0)∧(x.latched=false→1≤x.mode)
  seq:(0≤x.phase∧x.phase<s.phases.length)∧0≤x.since∧x.since≤1048576
  link:(0≤x.lage∧x.lage≤1048576)∧(0≤x.last∧x.last<4294967296)∧(x.any=false→x.last=0)
  rest:x.rest.length≤2048
  told:x.splits.length≤8
  age:0≤x.age∧x.age≤1048576
  wrong:0≤x.wrong∧x.wrong≤1048576
  pulses:x.pulses.length=s.eyes.length
  gaps:x.gaps.length=s.eyes.length
  eyes:x.eyes.length≤1000
  greens:Cn x.greens s.phases.length
  busy:Cn x.busy s.phases.length
  came:Cn x.came s.phases.length
  tick:0≤x.tick∧x.tick≤1073741824
  sent:0≤x.sent∧x.sent<4294967296
structure LNew (s:SiteT) (x:LocT):Prop where
  ok:LOk s x
  mode:x.mode=1∨x.mode=2
  well:x.well=0
  lat:x.latched=false
  start:IsG s x.start
  seen:x.seen=List.replicate s.groups.length ⟨1,1,1048576⟩
  fl:x.flashed=false
  told:x.cycle=0∧x.offset=0∧x.splits=[]
  age:x.age=1048576
  wrong:x.wrong=0
  tick:x.tick=0
  link:x.any=false∧x.last=0∧x.lage=0∧x.rest=[]
theorem qna {α:Type}{o:Option α}{P:α→Prop}(h:W o P):W o (fun r=>P r∧o=some r):=by
  obtain⟨r,e,p⟩:=h
  exact⟨r,e,p,e⟩
theorem cn0 (n:Nat):Cn (List.replicate n 0) n:=⟨by simp,fun x hx=>by rw[(List.mem_replicate.1 hx).2];omega⟩
theorem first_ok {s:SiteT}{z:List SeenT}{st:Int}(h:SOk s)(e:z=List.replicate s.groups.length ⟨1,1,1048576⟩)(g:IsG s st):qb4 s z st false:=by
  have q:∀ i:Nat,(i:Int)<s.groups.length→As z i=1:=by
    intro i hi
    subst e
    unfold As
    rw[List.getD_eq_getElem?_getD,List.getElem?_replicate,if_pos (by omega)];rfl
  refine⟨by rw[e,List.length_replicate],g.1,fun h=>by simp at h,fun _=>⟨fun i hi=>by have:=q i hi;dsimp only;omega,fun _ i hi=>q i hi,fun a ha b hb _=>.inl (q a ha)⟩⟩
theorem qff {s:SiteT}{d:List UInt8}(p0:SG s)(p1:d.length≤1000000):W (qcY s d) (fun r=>LNew s r):=by
 unfold qcY qb2
 obtain⟨⟨q1,q2,q3,q4,q5,q6,q7,q8⟩,q9⟩:=p0.ok.shape
 refine qab (qfe (by omega)) ?_
 rintro⟨n1,n2,n3,z4⟩ hn1
 dsimp only at hn1
 refine qab (q25 (by omega)) ?_
 rintro⟨n5,z6,n7,b8⟩ hn5
 dsimp only at hn5
 refine qa3 (fun(_,((x21,_),(x22,_),(x23,_),_),_)=>s=x21∧(dflt 26)=x22∧(x23={(dflt 26:LocT) with disk:=d,seen:=z6,start:=n7,flashed:=b8,mode:=(if n3=2∨n3=3 then 2 else 1),well:=0,latched:=false,age:=(1048576:Int)})) (fun J9 hJ9=>?_) ?_
 ·refine W_sm ?_
  refine qab (qfb (by omega)) ?_
  rintro z10 hz10
  refine W_sm ?_
  refine qab (qw8) ?_
  rintro⟨n11,n12,b13⟩ hn11
  exact hJ9.use _ (by dsimp only;exact⟨rfl,rfl,by simp only[Prod.mk.injEq] at hn11;rw[hn11.1,hn11.2.1,hn11.2.2,hz10,List.take_length]⟩)
 ·rintro⟨_,⟨⟨x21,_⟩,⟨x22,_⟩,⟨x23,_⟩,_⟩,_⟩ kJ9;dsimp only at kJ9
  obtain⟨rfl,rfl,kJ9⟩:=kJ9
  refine qa3 (fun(_,((x25,_),(x26,_),_),n27,_)=>(dflt 26)=x25∧{x23 with pulses:=List.take (s.eyes.length:Int).toNat (List.replicate (s.eyes.length:Int).toNat {upf:=false,rawf:=false,sincef:=(0:Int):Pls}),eyes:=List.take (s.eyes.length:Int).toNat (List.replicate (s.eyes.length:Int).toNat (dflt 23)),gaps:=List.take (s.eyes.length:Int).toNat (List.replicate (s.eyes.length:Int).toNat (dflt 22))}=x26∧(s.phases.length:Int)=n27∧(True)) (fun J24 hJ24=>?_) ?_
  ·refine W_sm ?_
   refine qwK (by omega) ?_
   refine W_sm ?_
   refine qwK (by omega) ?_
   refine W_sm ?_
   refine qwK (by omega) ?_
   exact hJ24.use _ (by dsimp only;exact⟨rfl,rfl,rfl,trivial⟩)
  ·rintro⟨_,⟨⟨x25,_⟩,⟨x26,_⟩,_⟩,n27,_⟩ kJ24;dsimp only at kJ24
   obtain⟨rfl,rfl,rfl,kJ24⟩:=kJ24
   refine qa3 (fun(_,((x29,_),(x30,_),_),_)=>(dflt 26)=x29∧{({x23 with pulses:=List.take (s.eyes.length:Int).toNat (List.replicate (s.eyes.length:Int).toNat {upf:=false,rawf:=false,sincef:=(0:Int):Pls}),eyes:=List.take (s.eyes.length:Int).toNat (List.replicate (s.eyes.length:Int).toNat (dflt 23)),gaps:=List.take (s.eyes.length:Int).toNat (List.replicate (s.eyes.length:Int).toNat (dflt 22))}) with greens:=List.take (s.phases.length:Int).toNat (List.replicate (s.phases.length:Int).toNat (0:Int)),busy:=List.take (s.phases.length:Int).toNat (List.replicate (s.phases.length:Int).toNat (0:Int)),came:=List.take (s.phases.length:Int).toNat (List.replicate (s.phases.length:Int).toNat (0:Int))}=x30∧(True)) (fun J28 hJ28=>?_) ?_
   ·refine W_sm ?_
    refine qaf (by omega) ?_
    refine W_sm ?_
    refine qaf (by omega) ?_
    refine W_sm ?_
    refine qaf (by omega) ?_
    exact hJ28.use _ (by dsimp only;exact⟨rfl,rfl,trivial⟩)
   ·rintro⟨_,⟨⟨x29,_⟩,⟨x30,_⟩,_⟩,_⟩ kJ28;dsimp only at kJ28
    obtain⟨rfl,rfl,kJ28⟩:=kJ28
    refine qaa ?_
    subst kJ9
    obtain⟨h1,h2,h3,h4⟩:=hn5
    subst h4
    have fo:=first_ok p0.ok h3 h2
    have le:∀ {α:Type} (a:α) (n:Nat),(List.take (n:Int).toNat (List.replicate (n:Int).toNat a))=List.replicate n a:=fun a n=>by rw[Int.toNat_natCast,List.take_of_length_le (by simp)]
    simp only[le]
    have md:(if n3=2∨n3=3 then (2:Int) else 1)=1∨(if n3=2∨n3=3 then (2:Int) else 1)=2:=by split<;>simp
    generalize (if n3=2∨n3=3 then (2:Int) else 1)=m at md ⊢
    exact{ok:={disk:=p1,now:=fo,rung:=⟨by dsimp only;omega,Int.le_refl 0,show (0:Int)≤1048576 by omega⟩,lat:=⟨fun h=>by simp at h,fun _=>by dsimp only;omega⟩,seq:=⟨⟨Int.le_refl 0,show (0:Int)<_ by omega⟩,Int.le_refl 0,show (0:Int)≤1048576 by omega⟩,link:=⟨⟨Int.le_refl 0,show (0:Int)≤1048576 by omega⟩,⟨Int.le_refl 0,show (0:Int)<4294967296 by omega⟩,fun _=>rfl⟩,rest:=Nat.zero_le _,told:=Nat.zero_le _,age:=⟨show (0:Int)≤1048576 by omega,Int.le_refl 1048576⟩,wrong:=⟨Int.le_refl 0,show (0:Int)≤1048576 by omega⟩,pulses:=List.length_replicate,gaps:=List.length_replicate,eyes:=by dsimp only;rw[List.length_replicate];omega,greens:=cn0 _,busy:=cn0 _,came:=cn0 _,tick:=⟨Int.le_refl 0,show (0:Int)≤1073741824 by omega⟩,sent:=⟨Int.le_refl 0,show (0:Int)<4294967296 by omega⟩},mode:=md,well:=rfl,lat:=rfl,start:=h2,seen:=h3,fl:=rfl,told:=⟨rfl,rfl,rfl⟩,age:=rfl,wrong:=rfl,tick:=rfl,link:=⟨rfl,rfl,rfl,rfl⟩}
theorem q0f {s:SiteT}{d:List UInt8}(p0:SSm s)(p1:SWf s)(p2:d.length≤1000000):W (qb3 s d) (fun r=>r.1=0→SG s∧LNew s r.2):=by
 unfold qb3 qi6
 refine qab (qna (q2g p1 p0)) ?_
 rintro n1 hn1
 refine W_if (fun c1=>?_) fun c1=>?_
 ·refine qaa ?_
  exact fun h=>absurd h c1
 ·have e1:n1=0:=Classical.not_not.1 c1
  subst e1
  have sg:SG s:=⟨hn1.1 rfl,hn1.2⟩
  refine qab (qw0 (by omega)) ?_
  rintro b2 hb2
  refine W_if (fun c2=>?_) fun c2=>?_
  ·refine qaa ?_
   exact fun h=>by simp at h
  ·refine qab (qff sg p2) ?_
   rintro x3 hx3
   refine qaa ?_
   exact fun _=>⟨sg,hx3⟩
end Go.Proofs.YtcdppfnjidlknaaGreatDoor
