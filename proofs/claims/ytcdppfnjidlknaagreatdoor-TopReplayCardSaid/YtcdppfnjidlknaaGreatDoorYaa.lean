import Derived.WalkKit
set_option linter.unusedVariables false
set_option linter.unusedSimpArgs false
namespace Go.Eng
open Go
structure Msg where
 kind:UInt8
 seq:UInt32
 body:List UInt8
structure Put where
 n:Int
 data:List UInt8
structure Plan where
 cycle:Int
 offset:Int
 splits:List Int
structure YMsg where
 nb:Nat
 kind:UInt8
 seq:UInt32
 body:List UInt8
structure YPut where
 nb:Nat
 n:Int
 data:List UInt8
structure YB where
 nb:Nat
 data:List UInt8
structure WB where
 nb:Nat
 n:Nat
structure Grp where
 kindf:Int
 minf:Int
 yellowf:Int
structure Phs where
 groupsf:Int
 minf:Int
 maxf:Int
 gapf:Int
 alwaysf:Bool
structure EyeT where
 phasef:Int
 onf:Int
 offf:Int
 turnsf:Int
structure SeenT where
 aspectf:Int
 sincef:Int
 endedf : Int
structure Pls where
 upf:Bool
 rawf:Bool
 sincef:Int
structure Gpd where
 upf:Bool
 heldf:Int
 openf:Int
 camef:Int
 lastf:Int
structure Lkd where
 upf:Bool
 samef:Int
 turnsf:Int
 badf:Bool
 wellf:Int
structure Inp where
 bytesf:List UInt8
 eyesf:Int
 backf:List UInt8
 lostf:Bool
 wholef:Int
 tornf:Int
 rotf:Bool
structure SiteT where
 id:Int
 groups:List Grp
 apart:List UInt32
 between:List (List Int)
 phases:List Phs
 eyes:List EyeT
 watch:Int
 feed:Int
 heal:Int
 low:Int
 high:Int
 plans:List Plan
structure LocT where
 disk:List UInt8
 seen:List SeenT
 start:Int
 flashed:Bool
 mode:Int
 well:Int
 latched:Bool
 phase:Int
 since:Int
 any:Bool
 last:Int
 lage:Int
 rest:List UInt8
 cycle:Int
 offset:Int
 splits:List Int
 age:Int
 pulses:List Pls
 eyes:List Lkd
 gaps:List Gpd
 calls:Int
 wrong:Int
 tick:Int
 greens:List Int
 busy:List Int
 came:List Int
 sent:Int
structure TickT where
 site:SiteT
 loc:LocT
 inp:Inp
 writes:List Put
 was:List Pls
 asks:List UInt8
 lights:List UInt8
 out:List UInt8
def YMsg.wild (m:YMsg):WB:=⟨m.nb,m.body.length⟩
def YPut.wild (m:YPut):WB:=⟨m.nb,m.data.length⟩
@[reducible] def ty:Nat→Type
 |0=>UInt8
 |1=>Int
 |2=>UInt32
 |3=>UInt64
 |4=>Bool
 |5=>ByteArray
 |6=>List UInt8
 |7=>List Int
 |8=>Msg
 |9=>Put
 |10=>Plan
 |11=>List Msg
 |12=>YMsg
 |13=>YPut
 |14=>YB
 |15=>WB
 |16=>WB
 |17=>Grp
 |18=>Phs
 |19=>EyeT
 |20=>SeenT
 |21=>Pls
 |22=>Gpd
 |23=>Lkd
 |24=>Inp
 |25=>SiteT
 |26=>LocT
 |27=>TickT
 |_=>Unit
def dflt:(c:Nat)→ty c
 |0=>(0:UInt8)|1=>(0:Int)|2=>(0:UInt32)|3=>(0:UInt64)|4=>false|5=>ByteArray.empty|6=>[]|7=>[]
 |8=>⟨0,0,[]⟩|9=>⟨0,[]⟩|10=>⟨0,0,[]⟩|11=>[]
 |12=>⟨0,0,0,[]⟩|13=>⟨0,0,[]⟩|14=>⟨0,[]⟩|15=>⟨0,0⟩|16=>⟨0,0⟩
 |17=>⟨0,0,0⟩|18=>⟨0,0,0,0,false⟩|19=>⟨0,0,0,0⟩|20=>⟨0,0,0⟩|21=>⟨false,false,0⟩|22=>⟨false,0,0,0,0⟩|23=>⟨false,0,0,false,0⟩|24=>⟨[],0,[],false,0,0,false⟩
 |25=>⟨0,[],[],[],[],[],0,0,0,0,0,[]⟩
 |26=>⟨[],[],0,false,0,0,false,0,0,false,0,0,[],0,0,[],0,[],[],[],0,0,0,[],[],[],0⟩
 |27=>⟨⟨0,[],[],[],[],[],0,0,0,0,0,[]⟩,⟨[],[],0,false,0,0,false,0,0,false,0,0,[],0,0,[],0,[],[],[],0,0,0,[],[],[],0⟩,⟨[],0,[],false,0,0,false⟩,[],[],[],[],[]⟩
 |_+28=>()
def szOf:Nat→Nat
 |0=>1|1=>1|2=>1|3=>1|4=>1|5=>1|6=>1|7=>1|8=>3|9=>2|10=>3|11=>1|12=>3|13=>2|14=>1|15=>3|16=>2|17=>3|18=>5|19=>4|20=>3|21=>3|22=>5|23=>5|24=>7|25=>12|26=>27|27=>51|_=>0
inductive AV where
 |int (k:IntKind) (n:Int)
 |bool (b:Bool)
 |str (s:ByteArray)
 |nilptr|nilsl|nilfn
 |sl (c:Nat) (xs:List (ty c))
 |iref (c:Nat) (x:ty c) (off:Nat)
 |row (c i o n:Nat)
 |ptr (i off:Nat)
 |eptr (c i idx off:Nat)
 |agg (cs:List AV)
 |tup (vs:List AV)
 |fn (f:Fn) (first captured:List AV)
 |dead
 |cond (b want:Bool) (v:AV)
 |val (v:Value)
 |both (a b:AV)
 |wsl (nb n:Nat)
 |wref (nb:Nat)
 |anyb
def enc:(c:Nat)→ty c→List AV
 |0,x=>[.int .u8 (x.toNat:Int)]
 |1,x=>[.int .i64 x]
 |2,x=>[.int .u32 (x.toNat:Int)]
 |3,x=>[.int .u64 (x.toNat:Int)]
 |4,x=>[.bool x]
 |5,x=>[.str x]
 |6,x=>[.sl 0 x]
 |7,x=>[.sl 1 x]
 |8,x=>[.int .u8 (x.kind.toNat:Int),.int .u32 (x.seq.toNat:Int),.sl 0 x.body]
 |9,x=>[.int .i64 x.n,.sl 0 x.data]
 |10,x=>[.int .i64 x.cycle,.int .i64 x.offset,.sl 1 x.splits]
 |11,x=>[.sl 8 x]
 |12,x=>[.int .u8 (x.kind.toNat:Int),.int .u32 (x.seq.toNat:Int),.both (.sl 0 x.body) (.wsl x.nb x.body.length)]
 |13,x=>[.int .i64 x.n,.both (.sl 0 x.data) (.wsl x.nb x.data.length)]
 |14,x=>[.both (.sl 0 x.data) (.wsl x.nb x.data.length)]
 |15,x=>[.dead,.dead,.wsl x.nb x.n]
 |16,x=>[.dead,.wsl x.nb x.n]
 |17,x=>[.int .u8 x.kindf,.int .i64 x.minf,.int .i64 x.yellowf]
 |18,x=>[.int .u32 x.groupsf,.int .i64 x.minf,.int .i64 x.maxf,.int .i64 x.gapf,.bool x.alwaysf]
 |19,x=>[.int .i64 x.phasef,.int .i64 x.onf,.int .i64 x.offf,.int .i64 x.turnsf]
 |20,x=>[.int .u8 x.aspectf,.int .i64 x.sincef,.int .i64 x.endedf]
 |21,x=>[.bool x.upf,.bool x.rawf,.int .i64 x.sincef]
 |22,x=>[.bool x.upf,.int .i64 x.heldf,.int .i64 x.openf,.int .i64 x.camef,.int .u64 x.lastf]
 |23,x=>[.bool x.upf,.int .i64 x.samef,.int .u64 x.turnsf,.bool x.badf,.int .i64 x.wellf]
 |24,x=>[.sl 0 x.bytesf,.int .u32 x.eyesf,.sl 0 x.backf,.bool x.lostf,.int .i64 x.wholef,.int .i64 x.tornf,.bool x.rotf]
 |25,x=>[.int .i64 x.id,.sl 17 x.groups,.sl 2 x.apart,.sl 7 x.between,.sl 18 x.phases,.sl 19 x.eyes,.int .i64 x.watch,.int .i64 x.feed,.int .i64 x.heal,.int .i64 x.low,.int .i64 x.high,.sl 10 x.plans]
 |26,x=>[.sl 0 x.disk,.sl 20 x.seen,.int .i64 x.start,.bool x.flashed,.int .u8 x.mode,.int .i64 x.well,.bool x.latched,.int .i64 x.phase,.int .i64 x.since,.bool x.any,.int .u32 x.last,.int .i64 x.lage,.sl 0 x.rest,.int .i64 x.cycle,.int .i64 x.offset,.sl 1 x.splits,.int .i64 x.age,.sl 21 x.pulses,.sl 23 x.eyes,.sl 22 x.gaps,.int .u32 x.calls,.int .i64 x.wrong,.int .i64 x.tick,.sl 1 x.greens,.sl 1 x.busy,.sl 1 x.came,.int .u32 x.sent]
 |27,x=>[.int .i64 x.site.id,.sl 17 x.site.groups,.sl 2 x.site.apart,.sl 7 x.site.between,.sl 18 x.site.phases,.sl 19 x.site.eyes,.int .i64 x.site.watch,.int .i64 x.site.feed,.int .i64 x.site.heal,.int .i64 x.site.low,.int .i64 x.site.high,.sl 10 x.site.plans,.sl 0 x.loc.disk,.sl 20 x.loc.seen,.int .i64 x.loc.start,.bool x.loc.flashed,.int .u8 x.loc.mode,.int .i64 x.loc.well,.bool x.loc.latched,.int .i64 x.loc.phase,.int .i64 x.loc.since,.bool x.loc.any,.int .u32 x.loc.last,.int .i64 x.loc.lage,.sl 0 x.loc.rest,.int .i64 x.loc.cycle,.int .i64 x.loc.offset,.sl 1 x.loc.splits,.int .i64 x.loc.age,.sl 21 x.loc.pulses,.sl 23 x.loc.eyes,.sl 22 x.loc.gaps,.int .u32 x.loc.calls,.int .i64 x.loc.wrong,.int .i64 x.loc.tick,.sl 1 x.loc.greens,.sl 1 x.loc.busy,.sl 1 x.loc.came,.int .u32 x.loc.sent,.sl 0 x.inp.bytesf,.int .u32 x.inp.eyesf,.sl 0 x.inp.backf,.bool x.inp.lostf,.int .i64 x.inp.wholef,.int .i64 x.inp.tornf,.bool x.inp.rotf,.sl 9 x.writes,.sl 21 x.was,.sl 0 x.asks,.sl 0 x.lights,.sl 0 x.out]
 |_+28,_=>[]
def qhN:AV→Option (List UInt8)
 |.sl 0 xs=>some xs
 |.nilsl=>some []
 |_=>none
def q6j:AV→Option (List Msg)
 |.sl 8 xs=>some xs
 |.nilsl=>some []
 |_=>none
def q2K:AV→Option (List Int)
 |.sl 1 xs=>some xs
 |.nilsl=>some []
 |_=>none
def asL (c:Nat):AV→Option (List (ty c))
 |.sl c' xs=>match decEq c' c with
  |isTrue h=>some (h▸xs)
  |isFalse _=>none
 |.nilsl=>some []
 |_=>none
def q0o:List AV→Option SiteT
 | [.int .i64 a0,a1,a2,a3,a4,a5,.int .i64 a6,.int .i64 a7,.int .i64 a8,.int .i64 a9,.int .i64 a10,a11]=>match asL 17 a1,asL 2 a2,asL 7 a3,asL 18 a4,asL 19 a5,asL 10 a11 with
  |some b1,some b2,some b3,some b4,some b5,some b11=>some ⟨a0,b1,b2,b3,b4,b5,a6,a7,a8,a9,a10,b11⟩
  |_,_,_,_,_,_=>none
 |_=>none
def q6k:List AV→Option LocT
 | [a0,a1,.int .i64 a2,.bool a3,.int .u8 a4,.int .i64 a5,.bool a6,.int .i64 a7,.int .i64 a8,.bool a9,.int .u32 a10,.int .i64 a11,a12,.int .i64 a13,.int .i64 a14,a15,.int .i64 a16,a17,a18,a19,.int .u32 a20,.int .i64 a21,.int .i64 a22,a23,a24,a25,.int .u32 a26]=>match asL 0 a0,asL 20 a1,asL 0 a12,asL 1 a15,asL 21 a17,asL 23 a18,asL 22 a19,asL 1 a23,asL 1 a24,asL 1 a25 with
  |some b0,some b1,some b12,some b15,some b17,some b18,some b19,some b23,some b24,some b25=>some ⟨b0,b1,a2,a3,a4,a5,a6,a7,a8,a9,a10,a11,b12,a13,a14,b15,a16,b17,b18,b19,a20,a21,a22,b23,b24,b25,a26⟩
  |_,_,_,_,_,_,_,_,_,_=>none
 |_=>none
def dec0:(c:Nat)→List AV→Option (ty c)
 |0,[.int .u8 n]=>some (UInt8.ofNat n.toNat)
 |1,[.int .i64 n]=>some n
 |2,[.int .u32 n]=>some (UInt32.ofNat n.toNat)
 |3,[.int .u64 n]=>some (UInt64.ofNat n.toNat)
 |4,[.bool b]=>some b
 |5,[.str s]=>some s
 |6,[a]=>qhN a
 |7,[a]=>q2K a
 |8,[.int .u8 k,.int .u32 s,a]=>match qhN a with
  |some b=>some ⟨UInt8.ofNat k.toNat,UInt32.ofNat s.toNat,b⟩
  |none=>none
 |9,[.int .i64 n,a]=>match qhN a with
  |some b=>some ⟨n,b⟩
  |none=>none
 |10,[.int .i64 n,.int .i64 o,a]=>match q2K a with
  |some b=>some ⟨n,o,b⟩
  |none=>none
 |11,[a]=>q6j a
 |12,[.int .u8 k,.int .u32 s,.both (.sl 0 b) (.wsl nb _)]=>some ⟨nb,UInt8.ofNat k.toNat,UInt32.ofNat s.toNat,b⟩
 |13,[.int .i64 n,.both (.sl 0 b) (.wsl nb _)]=>some ⟨nb,n,b⟩
 |14,[.both (.sl 0 b) (.wsl nb _)]=>some ⟨nb,b⟩
 |17,[.int .u8 a0,.int .i64 a1,.int .i64 a2]=>some ⟨a0,a1,a2⟩
 |18,[.int .u32 a0,.int .i64 a1,.int .i64 a2,.int .i64 a3,.bool a4]=>some ⟨a0,a1,a2,a3,a4⟩
 |19,[.int .i64 a0,.int .i64 a1,.int .i64 a2,.int .i64 a3]=>some ⟨a0,a1,a2,a3⟩
 |20,[.int .u8 a0,.int .i64 a1,.int .i64 a2]=>some ⟨a0,a1,a2⟩
 |21,[.bool a0,.bool a1,.int .i64 a2]=>some ⟨a0,a1,a2⟩
 |22,[.bool a0,.int .i64 a1,.int .i64 a2,.int .i64 a3,.int .u64 a4]=>some ⟨a0,a1,a2,a3,a4⟩
 |23,[.bool a0,.int .i64 a1,.int .u64 a2,.bool a3,.int .i64 a4]=>some ⟨a0,a1,a2,a3,a4⟩
 |24,[a0,.int .u32 a1,a2,.bool a3,.int .i64 a4,.int .i64 a5,.bool a6]=>match qhN a0,qhN a2 with
  |some b0,some b2=>some ⟨b0,a1,b2,a3,a4,a5,a6⟩
  |_,_=>none
 |_,_=>none
def qu6 (l:List AV):Option TickT:=match q0o (l.take 12),q6k ((l.drop 12).take 27),dec0 24 ((l.drop 39).take 7),l.drop 46 with
 |some s,some o,some i,[a0,a1,a2,a3,a4]=>match asL 9 a0,asL 21 a1,asL 0 a2,asL 0 a3,asL 0 a4 with
  |some b0,some b1,some b2,some b3,some b4=>some ⟨s,o,i,b0,b1,b2,b3,b4⟩
  |_,_,_,_,_=>none
 |_,_,_,_=>none
def dec (c:Nat)(l:List AV):Option (ty c):=match c with
 |25=>q0o l
 |26=>q6k l
 |27=>qu6 l
 |c=>dec0 c l
theorem qbL:∀ (c:Nat) (x:ty c),(enc c x).length=szOf c
 |0,_|1,_|2,_|3,_|4,_|5,_|6,_|7,_|8,_|9,_|10,_|11,_|12,_|13,_|14,_|15,_|16,_=>rfl
 |17,_|18,_|19,_|20,_|21,_|22,_|23,_|24,_|25,_|26,_|27,_=>rfl
 |_+28,_=>rfl
def nth:List AV→Nat→AV
 | [],_=>.dead
 |a::_,0=>a
 |_::r,n+1=>nth r n
def qav:List AV→Nat→AV→List AV
 | [],_,_=>[]
 |_::r,0,x=>x::r
 |a::r,n+1,x=>a::qav r n x
theorem qao:∀ (l:List AV) (n:Nat),nth l n=(l[n]?).getD .dead
 | [],_=>by simp[nth]
 |_::_,0=>by simp[nth]
 |_::r,n+1=>by simp[nth,qao r n]
theorem qb7:∀ (l:List AV) (n:Nat) (x:AV),qav l n x=l.set n x
 | [],_,_=>by simp[qav]
 |_::_,0,_=>by simp[qav]
 |_::r,n+1,x=>by simp[qav,qb7 r n x]
def kwf (k:IntKind)(n:Int):Prop:=k.min≤n∧n≤k.max
abbrev Ids:=Nat→Option (Option Nat×Nat)
def qai:Ids:=fun _=>none
inductive Rep (w:World) (im:Nat→Prop):Ids→Value→AV→Prop
 |int {ρ k n} (h:kwf k n):Rep w im ρ (.int k n) (.int k n)
 |bool {ρ b}:Rep w im ρ (.bool b) (.bool b)
 |str {ρ s} (h:s.size≤maxLen):Rep w im ρ (.string s) (.str s)
 |nilptr {ρ}:Rep w im ρ (.pointer none) .nilptr
 |nilsl {ρ}:Rep w im ρ (.slice none 0 0) .nilsl
 |nilfn {ρ}:Rep w im ρ .nilFunc .nilfn
 |sl0 {ρ c}:Rep w im ρ (.slice none 0 0) (.sl c [])
 |emp {ρ c a}:Rep w im ρ (.slice (some a) 0 0) (.sl c [])
 |sl {ρ b off cap c n} {xs:List (ty c)} (hb:im b) (hn:n=xs.length) (hcap:n≤cap) (hm:cap≤maxLen) (vals:Nat→Nat→Value)
   (hcell:∀ i j,i<xs.length→j<szOf c→w.cell? ⟨b,off+i*szOf c+j,none⟩=some (vals i j))
   (hone:∀ i j,i<xs.length→j<szOf c→(vals i j).oneCell'=true)
   (hrep:∀ i j x,xs[i]? = some x→j<szOf c→Rep w im qai (vals i j) (nth (enc c x) j)) :
   Rep w im ρ (.slice (some ⟨b,off,none⟩) n cap) (.sl c xs)
 |iref {ρ b off off' c o} {x:ty c} (hb:im b) (ho:off'=off+o) (vals:Nat→Value)
   (hcell:∀ j,j<szOf c→w.cell? ⟨b,off+j,none⟩=some (vals j))
   (hone:∀ j,j<szOf c→(vals j).oneCell'=true)
   (hrep:∀ j,j<szOf c→Rep w im qai (vals j) (nth (enc c x) j)) :
   Rep w im ρ (.pointer (some ⟨b,off',none⟩)) (.iref c x o)
 |row0 {ρ:Ids} {c i} (h:ρ i=some (none,0)):Rep w im ρ (.slice none 0 0) (.row c i 0 0)
 |row {ρ:Ids} {c i b o n cap e off m x} (h:ρ i=some (some b,m)) (hle:o+n≤m) (ho:off=o*szOf c) (hn:n≤cap) (hm:cap≤maxLen) (hs:w.shape? b=some (e,(o+cap+x)*szOf c)) :
   Rep w im ρ (.slice (some ⟨b,off,none⟩) n cap) (.row c i o n)
 |rowE {ρ:Ids} {c i o b off cap m} (h:ρ i=some (some b,m)) (ho:0<o) (hm:cap≤maxLen):Rep w im ρ (.slice (some ⟨b,off,none⟩) 0 cap) (.row c i o 0)
 |ptr {ρ:Ids} {i b off m} (h:ρ i=some (some b,m)):Rep w im ρ (.pointer (some ⟨b,off,none⟩)) (.ptr i off)
 |eptr {ρ:Ids} {c i b idx off off' m} (h:ρ i=some (some b,m)) (ho:off'=idx*szOf c+off):Rep w im ρ (.pointer (some ⟨b,off',none⟩)) (.eptr c i idx off)
 |agg {ρ:Ids} {vs:Array Value} {cs:List AV} (hl:vs.size=cs.length) (hone:∀ (j:Nat) (v:Value),vs[j]? = some v→v.oneCell'=true)
   (h:∀ (j:Nat) (v:Value),vs[j]? = some v→Rep w im ρ v (nth cs j)):Rep w im ρ (.agg vs) (.agg cs)
 |tup {ρ:Ids} {vs:Array Value} {cs:List AV} (hl:vs.size=cs.length) (h:∀ (j:Nat) (v:Value),vs[j]? = some v→Rep w im ρ v (nth cs j)):Rep w im ρ (.tuple vs) (.tup cs)
 |fn {ρ:Ids} {f} {vs us:Array Value} {cs ds:List AV} (hl:vs.size=cs.length) (hl':us.size=ds.length)
   (h:∀ (j:Nat) (v:Value),vs[j]? = some v→Rep w im ρ v (nth cs j)) (h':∀ (j:Nat) (v:Value),us[j]? = some v→Rep w im ρ v (nth ds j)) :
   Rep w im ρ (.func f vs us) (.fn f cs ds)
 |dead {ρ v}:Rep w im ρ v .dead
 |val {ρ v}:Rep w im ρ v (.val v)
 |both {ρ v a b} (h:Rep w im qai v a) (h':Rep w im qai v b):Rep w im ρ v (.both a b)
 |wsl {ρ nb ad n cap} (hn:n≤cap) (hm:cap≤maxLen) (h0:ad=none→n=0)
   (h:∀ i,i<n→∃ b off x,ad=some ⟨b,off,none⟩∧im b∧nb≤b∧kwf .u8 x∧w.cell? ⟨b,off+i,none⟩=some (.int .u8 x)∧w.frozen? ⟨b,off+i,none⟩=false):Rep w im ρ (.slice ad n cap) (.wsl nb n)
 |wref {ρ nb b off x} (hb:im b) (hn:nb≤b) (hx:kwf .u8 x) (hc:w.cell? ⟨b,off,none⟩=some (.int .u8 x)) (hf:w.frozen? ⟨b,off,none⟩=false) :
   Rep w im ρ (.pointer (some ⟨b,off,none⟩)) (.wref nb)
 |anyb {ρ x} (h:kwf .u8 x):Rep w im ρ (.int .u8 x) .anyb
theorem Rep.stableC {w w':World} {im im':Nat→Prop} {ρ ρ':Ids} {v:Value} {a:AV} (h:Rep w im ρ v a)
  (hw:∀ b o,im b→w'.cell? ⟨b,o,none⟩=w.cell? ⟨b,o,none⟩) (him:∀ b,im b→im' b) (hρ:∀ i x,ρ i=some x→ρ' i=some x)
  (hs:∀ i b m,ρ i=some (some b,m)→w'.shape? b=w.shape? b)
  (hz:∀ b o x,im b→w.cell? ⟨b,o,none⟩=some x→w.frozen? ⟨b,o,none⟩=false→w'.frozen? ⟨b,o,none⟩=false):Rep w' im' ρ' v a:=by
 induction h generalizing ρ' with
 |int h=>exact .int h
 |bool=>exact .bool
 |str h=>exact .str h
 |nilptr=>exact .nilptr
 |nilsl=>exact .nilsl
 |nilfn=>exact .nilfn
 |sl0=>exact .sl0
 |emp=>exact .emp
 |sl hb hn hcap hm vals hcell hone hrep ih =>
  refine .sl (him _ hb) hn hcap hm vals (fun i j hi hj=>?_) hone (fun i j x hx hj=>ih i j x hx hj (ρ':=qai) (fun _ _ h=>h) (fun _ _ _ h=>by simp[qai] at h))
  rw[← hcell i j hi hj]
  exact hw _ _ hb
 |iref hb ho vals hcell hone hrep ih =>
  refine .iref (him _ hb) ho vals (fun j hj=>?_) hone (fun j hj=>ih j hj (ρ':=qai) (fun _ _ h=>h) (fun _ _ _ h=>by simp[qai] at h))
  rw[← hcell j hj]
  exact hw _ _ hb
 |row0 h=>exact .row0 (hρ _ _ h)
 |row h hle ho hn hm hsh=>exact .row (hρ _ _ h) hle ho hn hm ((hs _ _ _ h).trans hsh)
 |rowE h ho hm=>exact .rowE (hρ _ _ h) ho hm
 |ptr h=>exact .ptr (hρ _ _ h)
 |eptr h ho=>exact .eptr (hρ _ _ h) ho
 |agg hl hone h ih=>exact .agg hl hone fun j v h1=>ih j v h1 hρ hs
 |tup hl h ih=>exact .tup hl fun j v h1=>ih j v h1 hρ hs
 |fn hl hl' h h' ih ih'=>exact .fn hl hl' (fun j v h1=>ih j v h1 hρ hs) (fun j v h1=>ih' j v h1 hρ hs)
 |dead=>exact .dead
 |val=>exact .val
 |both h h' ih ih'=>exact .both (ih (ρ':=qai) (fun _ _ h=>h) (fun _ _ _ h=>by simp[qai] at h)) (ih' (ρ':=qai) (fun _ _ h=>h) (fun _ _ _ h=>by simp[qai] at h))
 |wsl hn hm h0 h =>
  refine .wsl hn hm h0 fun i hi=>?_
  obtain⟨b,off,x,h1,h2,h3,h4,h5,h6⟩:=h i hi
  exact⟨b,off,x,h1,him _ h2,h3,h4,(hw _ _ h2).trans h5,hz _ _ _ h2 h5 h6⟩
 |wref hb hn hx hc hf=>exact .wref (him _ hb) hn hx ((hw _ _ hb).trans hc) (hz _ _ _ hb hc hf)
 |anyb h=>exact .anyb h
theorem Rep.stable {w w':World} {im im':Nat→Prop} {ρ ρ':Ids} {v:Value} {a:AV} (h:Rep w im ρ v a)
  (hw:∀ b,im b→w'.heap[b]? = w.heap[b]?) (him:∀ b,im b→im' b) (hρ:∀ i x,ρ i=some x→ρ' i=some x)
  (hs:∀ i b m,ρ i=some (some b,m)→w'.shape? b=w.shape? b):Rep w' im' ρ' v a :=
 h.stableC (fun b o hb=>World.cell?_of_block (w:=w) (hw b hb)) him hρ hs (fun b o x hb _ hf=>by
  have e:w'.frozen? ⟨b,o,none⟩=w.frozen? ⟨b,o,none⟩:=by simp only[World.frozen?,hw b hb]
  rw[e];exact hf)
theorem Rep.any {w:World}{im:Nat→Prop} {ρ:Ids}{v:Value}{a:AV}(h:Rep w im qai v a):Rep w im ρ v a :=
 h.stable (fun _ _=>rfl) (fun _ h=>h) (fun _ _ h=>by simp[qai] at h) (fun _ _ _ h=>by simp[qai] at h)
end Go.Eng
namespace Go.Eng
open Go
inductive Blk where
 |cells (cs:List AV)
 |row (c:Nat) (xs:List (ty c))
abbrev Locs:=List (Nat×Blk)
def lget:Locs→Nat→Option Blk
 | [],_=>none
 |(j,b)::r,i=>match Nat.beq j i with
  |true=>some b
  |false=>lget r i
def lset:Locs→Nat→Blk→Locs
 | [],_,_=>[]
 |(j,b)::r,i,x=>match Nat.beq j i with
  |true=>(j,x)::r
  |false=>(j,b)::lset r i x
def ldel:Locs→Nat→Locs
 | [],_=>[]
 |(j,b)::r,i=>match Nat.beq j i with
  |true=>r
  |false=>(j,b)::ldel r i
structure AS where
 slots:List AV
 gs:List (Nat×Nat×Bool)
 locs:Locs
def gget:List (Nat×Nat×Bool)→Nat→Option (Nat×Bool)
 | [],_=>none
 |(t,g,b)::r,i=>match Nat.beq t i with
  |true=>some (g,b)
  |false=>gget r i
def qcc:IntKind→IntKind→Bool
 |.i8,.i8|.i16,.i16|.i32,.i32|.i64,.i64|.u8,.u8|.u16,.u16|.u32,.u32|.u64,.u64=>true
 |_,_=>false
def q2L:Value→AV
 |.int k n=>bif decide (k.min≤n)&&decide (n≤k.max) then .int k n else .dead
 |.bool b=>.bool b
 |.string s=>bif Nat.ble s.size maxLen then .str s else .dead
 |.pointer none=>.nilptr
 |.slice none 0 0=>.nilsl
 |.nilFunc=>.nilfn
 |_=>.dead
def qrm:Value→AV
 |.agg cs=>bif cs.toList.all Value.oneCell' then .agg (cs.toList.map q2L) else .dead
 |v=>q2L v
abbrev Gd:=Option (Nat×Bool)
def beqB:Bool→Bool→Bool
 |true,b=>b
 |false,b=>!b
def AS.slot (σ:AS)(g:Gd)(t:Nat):AV :=
 match gget σ.gs t with
 |none=>nth σ.slots t
 |some (tc,w)=>match g with
  |none=>.dead
  |some (tc',w')=>match Nat.beq tc tc'&&beqB w w' with
   |true=>nth σ.slots t
   |false=>.dead
def AS.ev (σ:AS)(g:Gd):Operand→AV
 |.tmp t=>σ.slot g t
 |.const v=>qrm v
 |.func f=>.fn (.func f) [] []
 |.global _=>.dead
structure DP where
 p:Prop
 d:Decidable p
abbrev dp (p:Prop) [d:Decidable p]:DP:=⟨p,d⟩
inductive PR where
 |ok (pre:List DP) (v:AV)
 |bad
def PR.bind1 (o:Option AV)(pre:List DP):PR:=match o with
 |some v=>.ok pre v
 |none=>.bad
def q2M (op:BinOp)(k:IntKind)(x y:Int):PR :=
 match op with
 |.add=>.ok [] (.int k (k.wrap (x+y)))
 |.sub=>.ok [] (.int k (k.wrap (x-y)))
 |.mul=>.ok [] (.int k (k.wrap (x*y)))
 |.quo=>.ok [dp (y≠0)] (.int k (k.wrap (x.tdiv y)))
 |.rem=>.ok [dp (y≠0)] (.int k (x.tmod y))
 |.and=>.ok [] (.int k (bits .and k x y))
 |.or=>.ok [] (.int k (bits .or k x y))
 |.xor=>.ok [] (.int k (bits .xor k x y))
 |.andNot=>.ok [] (.int k (bits .andNot k x y))
 |.eql=>.ok [] (.bool (x==y))
 |.neq=>.ok [] (.bool (x != y))
 |.lss=>.ok [] (.bool (decide (x<y)))
 |.leq=>.ok [] (.bool (decide (x≤y)))
 |.gtr=>.ok [] (.bool (decide (x > y)))
 |.geq=>.ok [] (.bool (decide (x≥y)))
 |_=>.bad
def q0p (op:BinOp)(k:IntKind)(x y:Int):PR :=
 match op with
 |.shl=>.ok [dp (0≤y)] (.int k (k.wrap (x*2 ^ (min y.toNat k.bits))))
 |.shr=>.ok [dp (0≤y)] (.int k (x.fdiv (2 ^ (min y.toNat k.bits))))
 |_=>.bad
def q0q:BinOp→Bool
 |.shl|.shr=>true
 |_=>false
def eqF (P:Program)(xs ys:List AV):List Field→Option Bool
 | []=>some true
 |f::r=>match decide (f.name≠ "_"),P.underlying f.type,nth xs f.offset,nth ys f.offset,eqF P xs ys r with
  |true,some (.int _),.int k a,.int k' b,some c=>match qcc k k' with
   |true=>some ((a==b)&&c)
   |false=>none
  |true,some .bool,.bool a,.bool b,some c=>some ((a==b)&&c)
  |true,some .string,.str a,.str b,some c=>some ((a.data.toList==b.data.toList)&&c)
  |_,_,_,_,_=>none
def eqA2 (P:Program)(n:Nat)(e:TypeId)(xs ys:List AV):Option Bool:=match xs,ys with
 | [.int k a,.int k1 b],[.int k2 c,.int k3 d]=>match Nat.beq n 2&&qcc k1 k&&qcc k2 k&&qcc k3 k&&(match P.info? e with|some i=>Nat.beq i.size 1|none=>false),P.underlying e with
  |true,some (.int _)=>some ((a==c)&&(b==d))
  |_,_=>none
 |_,_=>none
def binAV (P:Program)(op:BinOp)(t:TypeId)(x y:AV):PR :=
 match x,y with
 |.int k a,.int k' b=>match q0q op with
  |true=>q0p op k a b
  |false=>match qcc k k' with
   |true=>q2M op k a b
   |false=>.bad
 |.bool a,.bool b=>match op,P.underlying t with
  |.eql,some .bool=>.ok [] (.bool (a==b))
  |.neq,some .bool=>.ok [] (.bool (!(a==b)))
  |_,_=>.bad
 |.str a,.str b=>match op with
  |.eql=>.ok [] (.bool (a.data.toList==b.data.toList))
  |.neq=>.ok [] (.bool (!(a.data.toList==b.data.toList)))
  |_=>.bad
 |.ptr ..,.nilptr|.eptr ..,.nilptr|.iref ..,.nilptr=>match op,P.underlying t with
  |.eql,some (.pointer _)=>.ok [] (.bool false)
  |.neq,some (.pointer _)=>.ok [] (.bool true)
  |_,_=>.bad
 |.nilptr,.nilptr=>match op,P.underlying t with
  |.eql,some (.pointer _)=>.ok [] (.bool true)
  |.neq,some (.pointer _)=>.ok [] (.bool false)
  |_,_=>.bad
 |.nilsl,.nilsl=>match op,P.underlying t with
  |.eql,some (.slice _)=>.ok [] (.bool true)
  |.neq,some (.slice _)=>.ok [] (.bool false)
  |_,_=>.bad
 |.agg xs,.agg ys=>match P.underlying t with
  |some (.struct fs)=>match !P.stoodInHeld t && !P.eqGuardType P.depth t,eqF P xs ys fs.toList,op with
   |true,some b,.eql=>.ok [] (.bool b)
   |true,some b,.neq=>.ok [] (.bool (!b))
   |_,_,_=>.bad
  |some (.array n e)=>match !P.eqGuardType P.depth t,eqA2 P n e xs ys,op with
   |true,some b,.eql=>.ok [] (.bool b)
   |true,some b,.neq=>.ok [] (.bool (!b))
   |_,_,_=>.bad
  |_=>.bad
 |.anyb,.int .u8 _=>match op with
  |.add=>.ok [] .anyb
  |_=>.bad
 |_,_=>.bad
def qrn:List AV→Nat→List AV
 |_,0=>[]
 | [],_=>[]
 |a::r,n+1=>a::qrn r n
def qro:List AV→Nat→List AV
 |r,0=>r
 | [],_=>[]
 |_::r,n+1=>qro r n
def aggD:TypeDesc→Bool
 |.struct _|.array _ _=>true
 |_=>false
def qh8 (P:Program)(t:TypeId)(cs:List AV)(off:Nat):Option AV :=
 match P.info? t,P.underlying t with
 |some i,some d=>match aggD d with
  |true=>match Nat.ble (off+i.size) cs.length with
   |true=>some (.agg (qrn (qro cs off) i.size))
   |false=>none
  |false=>match Nat.blt off cs.length with
   |true=>some (nth cs off)
   |false=>none
 |_,_=>none
def bytesOf (L:Locs):AV→Option (List UInt8)
 |.nilsl=>some []
 |.sl 0 xs=>some xs
 |.row 0 i o n=>match lget L i with
  |some (.row 0 xs)=>some ((xs.drop o).take n)
  |_=>none
 |_=>none
def qoc (P:Program)(s:TypeId)(f:Nat):Option (Nat×TypeId) :=
 match P.underlying s with
 |some (.struct fs)=>match fs.toList[f]? with
  |some fd=>some (fd.offset,fd.type)
  |none=>none
 |_=>none
def qbM (P:Program)(t:TypeId):Nat:=match P.info? t with
 |some i=>i.size
 |none=>0
def qhO (P:Program)(t:TypeId):Option TypeId:=match P.underlying t with
 |some (.slice e)=>some e
 |_=>none
def qfg (cs:List AV)(off:Nat)(vs:List AV):List AV:=qrn cs off++vs++qro cs (off+vs.length)
def qat:AV→List AV
 |.agg l=>l
 |.dead|.tup _|.cond .. | .val _=>[]
 |.both (.sl c xs) b=>[.both (.sl c xs) b]
 |.both ..=>[]
 |x=>[x]
def qfu (place:Nat→Option (Nat×Nat))(cells:List AV):List (Nat×AV)→Option (List AV)
 | []=>some cells
 |(i,v)::rest=>match place i with
  |none=>none
  |some (off,size)=>match Nat.beq (qat v).length size&&Nat.blt 0 size&&Nat.ble (off+size) cells.length with
   |true=>qfu place (qfg cells off (qat v)) rest
   |false=>none
def qbt (P:Program)(t:TypeId):Option (List AV) :=
 match P.info? t with
 |some i=>match i.zero with
  |some v=>match qrm v with
   |.agg l=>some l
   |.dead|.tup _|.cond .. | .val _|.both ..=>none
   |x=>some [x]
  |none=>none
 |none=>none
def qu7 (P:Program):List Field→Bool
 | []=>true
 |f::r=>(match P.info? f.type with|some _=>true|none=>false)&&qu7 P r
def q0r (P:Program)(t:TypeId)(parts:List (Nat×AV)):Option AV :=
 match qbt P t,P.underlying t with
 |some z,some (.struct fs)=>match qu7 P fs.toList with
  |true=>match qfu (fun i=>(fs.toList.map fun f=>(f.offset,qbM P f.type))[i]?) z parts with
   |some cs=>some (.agg cs)
   |none=>none
  |false=>none
 |some z,some (.array _ e)=>match P.info? e with
  |some ie=>match qfu (fun i=>some (i*ie.size,ie.size)) z parts with
   |some cs=>some (.agg cs)
   |none=>none
  |none=>none
 |_,_=>none
def qod (x:AV)(lo hi:Option AV):PR :=
 match x,lo,hi with
 |.sl c xs,none,none=>.ok [] (.sl c xs)
 |.sl c xs,some (.int _ l),none=>.ok [dp (0≤l),dp (l≤xs.length)] (.sl c (xs.drop l.toNat))
 |.sl c xs,none,some (.int _ h)=>.ok [dp (0≤h),dp (h≤xs.length)] (.sl c (xs.take h.toNat))
 |.sl c xs,some (.int _ l),some (.int _ h)=>.ok [dp (0≤l),dp (l≤h),dp (h≤xs.length)] (.sl c ((xs.take h.toNat).drop l.toNat))
 |.row c i o n,none,none=>.ok [] (.row c i o n)
 |.row c i o n,some (.int _ l),none=>.ok [dp (0≤l),dp (l≤n)] (.row c i (o+l.toNat) (n-l.toNat))
 |.row c i o n,none,some (.int _ h)=>.ok [dp (0≤h),dp (h≤n)] (.row c i o h.toNat)
 |.row c i o n,some (.int _ l),some (.int _ h)=>.ok [dp (0≤l),dp (l≤h),dp (h≤n)] (.row c i (o+l.toNat) (h.toNat-l.toNat))
 |.nilsl,none,none=>.ok [] .nilsl
 |.nilsl,some (.int _ l),none=>.ok [dp (l=0)] .nilsl
 |.nilsl,none,some (.int _ h)=>.ok [dp (h=0)] .nilsl
 |.nilsl,some (.int _ l),some (.int _ h)=>.ok [dp (l=0),dp (h=0)] .nilsl
 |_,_,_=>.bad
def qwL (P:Program)(L:Locs)(t:TypeId)(x:AV):PR :=
 match x with
 |.ptr i off=>match lget L i with
  |some (.cells cs)=>.bind1 (qh8 P t cs off) []
  |_=>.bad
 |.eptr c i idx off=>match lget L i with
  |some (.row c' xs)=>match Nat.beq c c' with
   |true=>.bind1 (qh8 P t (enc c' (xs.getD idx (dflt c'))) off) [dp (idx<xs.length)]
   |false=>.bad
  |_=>.bad
 |.iref c x off=>.bind1 (qh8 P t (enc c x) off) []
 |.wref _=>match P.info? t,P.underlying t with
  |some i,some (.int .u8)=>match Nat.beq i.size 1 with
   |true=>.ok [] .anyb
   |false=>.bad
  |_,_=>.bad
 |_=>.bad
def qbu (P:Program)(e:TypeId)(c:Nat):Bool:=match P.info? e with
 |some i=>Nat.beq i.size (szOf c)&&Nat.blt 0 (szOf c)
 |none=>false
def qhP (P:Program)(L:Locs)(t:TypeId)(x ix:AV):PR :=
 match ix with
 |.int _ n=>match P.underlying t,x with
  |some (.slice e),.sl c xs=>match qbu P e c with
   |true=>.ok [dp (0≤n),dp (n<xs.length)] (.iref c (xs.getD n.toNat (dflt c)) 0)
   |false=>.bad
  |some (.slice e),.row c i o len=>match qbu P e c with
   |true=>.ok [dp (0≤n),dp (n<len)] (.eptr c i (o+n.toNat) 0)
   |false=>.bad
  |some (.slice e),.wsl nb len=>match qbu P e 0 with
   |true=>.ok [dp (0≤n),dp (n<len)] (.wref nb)
   |false=>.bad
  |some (.array len e),.ptr i 0=>match lget L i with
   |some (.row c _)=>match qbu P e c with
    |true=>.ok [dp (0≤n),dp (n<len)] (.eptr c i n.toNat 0)
    |false=>.bad
   |some (.cells _)=>match Nat.beq (qbM P e) 0 with
    |true=>.bad
    |false=>.ok [dp (0≤n),dp (n<len)] (.ptr i (n.toNat*qbM P e))
   |_=>.bad
  |_,_=>.bad
 |_=>.bad
def qwM (s:ByteArray)(n:Int):Int:=((s.data.toList.getD n.toNat 0).toNat:Int)
def q0s (P:Program)(t:TypeId)(x ix:AV):PR:=match ix,x,P.underlying t with
 |.int _ n,.str s,some .string=>.ok [dp (0≤n),dp (n<s.size)] (.int .u8 (qwM s n))
 |_,_,_=>.bad
def mm (op:Builtin)(x y:Int):Int:=match op with
 |.min=>min x y
 |_=>max x y
def q49 (op:Builtin):AV→List AV→Option AV
 |a,[]=>some a
 |.int k x,.int k' y::r=>match qcc k k' with
  |true=>q49 op (.int k (mm op x y)) r
  |false=>none
 |_,_=>none
def nthV (vs:List AV)(i:Nat):Option AV:=match Nat.blt i vs.length with
 |true=>some (nth vs i)
 |false=>none
def q6l (c a b:AV):PR :=
 match c with
 |.bool cb=>match a,b with
  |.bool x,.bool y=>.ok [] (.bool (bif cb then x else y))
  |.int k x,.int k' y=>match qcc k k' with
   |true=>.ok [] (.int k (bif cb then x else y))
   |false=>.bad
  |.tup [],y=>.ok [dp (cb=false)] y
  |x,.tup []=>.ok [dp (cb=true)] x
  |_,_=>.bad
 |_=>.bad
def AS.pickSlot (σ:AS)(g:Gd)(c:Operand)(w:Bool)(x:Operand):AV :=
 match x,c with
 |.tmp t,.tmp tc=>match gget σ.gs t with
  |some (tc',w')=>match Nat.beq tc tc'&&beqB w w' with
   |true=>nth σ.slots t
   |false=>σ.ev g x
  |none=>σ.ev g x
 |_,_=>σ.ev g x
def lenAV:TypeDesc→AV→PR
 |.slice _,.sl _ xs=>.ok [] (.int .i64 xs.length)
 |.slice _,.row _ _ _ n=>.ok [] (.int .i64 n)
 |.slice _,.wsl _ n=>.ok [] (.int .i64 n)
 |.slice _,.nilsl=>.ok [] (.int .i64 0)
 |.string,.str s=>.ok [] (.int .i64 s.size)
 |_,_=>.bad
def q6m (P:Program)(L:Locs)(s d:TypeId)(x:AV):PR :=
 match P.underlying s,P.underlying d,x with
 |some (.int _),some (.int k),.int _ n=>.ok [] (.int k (k.wrap n))
 |some (.slice e),some .string,y=>match P.underlying e with
  |some (.int .u8)=>match bytesOf L y with
   |some xs=>.ok [] (.str ⟨xs.toArray⟩)
   |none=>.bad
  |_=>.bad
 |some .string,some .string,.str y=>.ok [] (.str y)
 |_,_,_=>.bad
def unAV (op:UnOp)(x:AV):PR :=
 match op,x with
 |.neg,.int k n=>.ok [] (.int k (k.wrap (0-n)))
 |.xor,.int .u8 n=>.ok [] (.int .u8 (bits .xor .u8 255 n))
 |.xor,.int .u32 n=>.ok [] (.int .u32 (bits .xor .u32 4294967295 n))
 |.xor,.int .u64 n=>.ok [] (.int .u64 (bits .xor .u64 18446744073709551615 n))
 |.xor,.int .i64 n=>.ok [] (.int .i64 (bits .xor .i64 (-1) n))
 |.not,.bool b=>.ok [] (.bool (!b))
 |_,_=>.bad
def pop (P:Program) (σ:AS)(g:Gd)(o:Oper):PR :=
 match o.op with
 |.move x|.assign x=>.ok [] (σ.ev g x)
 |.pick c a b=>q6l (σ.ev g c) (σ.pickSlot g c true a) (σ.pickSlot g c false b)
 |.build t parts=>.bind1 (q0r P t (parts.toList.map fun p=>(p.1,σ.ev g p.2))) []
 |.load t x=>qwL P σ.locs t (σ.ev g x)
 |.nilCheck x=>match σ.ev g x with
  |.ptr i o=>.ok [] (.ptr i o)
  |.eptr c i n o=>.ok [] (.eptr c i n o)
  |.iref c x o=>.ok [] (.iref c x o)
  |_=>.bad
 |.binOp op t x y _=>binAV P op t (σ.ev g x) (σ.ev g y)
 |.unOp op _ x=>unAV op (σ.ev g x)
 |.convert s d x=>q6m P σ.locs s d (σ.ev g x)
 |.slice t x none (some hi) (some mx)=>match P.underlying t,σ.ev g x,σ.ev g hi,σ.ev g mx with
  |some (.slice e),.row c i o n,.int _ h,.int _ m=>match qbu P e c with
   |true=>.ok [dp (0≤h),dp (h≤m),dp (m≤n)] (.row c i o h.toNat)
   |false=>.bad
  |_,_,_,_=>.bad
 |.slice t x lo hi none=>match P.underlying t,σ.ev g x with
  |some (.slice e),.sl c xs=>match qbu P e c with
   |true=>qod (.sl c xs) (lo.map (σ.ev g)) (hi.map (σ.ev g))
   |false=>.bad
  |some (.slice e),.row c i o n=>match qbu P e c with
   |true=>qod (.row c i o n) (lo.map (σ.ev g)) (hi.map (σ.ev g))
   |false=>.bad
  |some (.slice e),.nilsl=>match P.info? e with
   |some _=>qod .nilsl (lo.map (σ.ev g)) (hi.map (σ.ev g))
   |none=>.bad
  |_,_=>.bad
 |.fieldAddr t x f=>match qoc P t f,σ.ev g x with
  |some (off,ft),.ptr i o=>match Nat.beq (qbM P ft) 0 with
   |true=>.bad
   |false=>.ok [] (.ptr i (o+off))
  |some (off,ft),.eptr c i n o=>match Nat.beq (qbM P ft) 0 with
   |true=>.bad
   |false=>.ok [] (.eptr c i n (o+off))
  |some (off,ft),.iref c x o=>match Nat.beq (qbM P ft) 0 with
   |true=>.bad
   |false=>.ok [] (.iref c x (o+off))
  |_,_=>.bad
 |.field t x f=>match qoc P t f,σ.ev g x with
  |some (off,ft),.agg cs=>.bind1 (qh8 P ft cs off) []
  |_,_=>.bad
 |.indexAddr t x ix=>qhP P σ.locs t (σ.ev g x) (σ.ev g ix)
 |.index t x ix=>q0s P t (σ.ev g x) (σ.ev g ix)
 |.extract t i=>match σ.ev g t with
  |.tup vs=>.bind1 (nthV vs i) []
  |_=>.bad
 |.makeFunc fn first captured=>.ok [] (.fn fn (first.toList.map (σ.ev g)) (captured.toList.map (σ.ev g)))
 |.call c=>match c.callee,c.args.toList.map (σ.ev g) with
  |.builtin .len,[x]=>match (c.argTypes[0]?).bind P.underlying with
   |some d=>lenAV d x
   |none=>.bad
  |.builtin .min,x::r=>.bind1 (q49 .min x r) []
  |.builtin .max,x::r=>.bind1 (q49 .max x r) []
  |.builtin .cap,[.nilsl]=>match (c.argTypes[0]?).bind P.underlying with
   |some (.slice _)=>.ok [] (.int .i64 0)
   |_=>.bad
  |_,_=>.bad
 |_=>.bad
end Go.Eng
