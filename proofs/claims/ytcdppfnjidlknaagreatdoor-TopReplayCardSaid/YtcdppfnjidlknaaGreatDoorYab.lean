import Derived.Test.YtcdppfnjidlknaaGreatDoorYaa
import Derived.Lib.TrailingZeros
set_option linter.unusedVariables false
set_option linter.unusedSimpArgs false
namespace Go.Eng
open Go
def memN:Nat→List Nat→Bool
 |_,[]=>false
 |i,j::r=>match Nat.beq i j with
  |true=>true
  |false=>memN i r
def addN (i:Nat)(l:List Nat):List Nat:=match memN i l with
 |true=>l
 |false=>l++[i]
mutual
/-- The numbers of the blocks that a value names. -/
def ids:AV→List Nat→List Nat
 |.row _ i _ _,acc|.ptr i _,acc|.eptr _ i _ _,acc=>addN i acc
 |.agg l,acc|.tup l,acc=>idsL l acc
 |.fn _ a b,acc=>idsL b (idsL a acc)
 |.cond _ _ v,acc=>ids v acc
 |_,acc=>acc
def idsL:List AV→List Nat→List Nat
 | [],acc=>acc
 |a::r,acc=>idsL r (ids a acc)
end
mutual
/-- A value with each named block's number turned. -/
def ren (f:Nat→Nat):AV→AV
 |.row c i o n=>.row c (f i) o n
 |.ptr i o=>.ptr (f i) o
 |.eptr c i x o=>.eptr c (f i) x o
 |.agg l=>.agg (renL f l)
 |.tup l=>.tup (renL f l)
 |.fn g a b=>.fn g (renL f a) (renL f b)
 |.cond g w v=>.cond g w (ren f v)
 |x=>x
def renL (f:Nat→Nat):List AV→List AV
 | []=>[]
 |a::r=>ren f a::renL f r
end
mutual
/-- A value in which whatever names block i is forgotten. -/
def kill (i:Nat):AV→AV
 |.row c j o n=>match Nat.beq i j with|true=>.dead|false=>.row c j o n
 |.ptr j o=>match Nat.beq i j with|true=>.dead|false=>.ptr j o
 |.eptr c j x o=>match Nat.beq i j with|true=>.dead|false=>.eptr c j x o
 |.agg l=>.agg (qbI i l)
 |.tup l=>.tup (qbI i l)
 |.fn g a b=>.fn g (qbI i a) (qbI i b)
 |.cond g w v=>.cond g w (kill i v)
 |x=>x
def qbI (i:Nat):List AV→List AV
 | []=>[]
 |a::r=>kill i a::qbI i r
end
mutual
/-- A value in which row i,which is written no more,stands as what it holds. -/
def frz (i c:Nat)(xs:List (ty c)):AV→AV
 |.row c' j o n=>match Nat.beq i j with
  |true=>match Nat.beq c c' with
   |true=>.sl c ((xs.drop o).take n)
   |false=>.dead
  |false=>.row c' j o n
 |.eptr c' j x o=>match Nat.beq i j with
  |true=>.dead
  |false=>.eptr c' j x o
 |.ptr j o=>match Nat.beq i j with|true=>.dead|false=>.ptr j o
 |.agg l=>.agg (frzL i c xs l)
 |.tup l=>.tup (frzL i c xs l)
 |.fn g a b=>.fn g (frzL i c xs a) (frzL i c xs b)
 |.cond g w v=>.cond g w (frz i c xs v)
 |x=>x
def frzL (i c:Nat)(xs:List (ty c)):List AV→List AV
 | []=>[]
 |a::r=>frz i c xs a::frzL i c xs r
end
def Blk.map (f:List AV→List AV):Blk→Blk
 |.cells cs=>.cells (f cs)
 |.row c xs=>.row c xs
def lmap (f:List AV→List AV):Locs→Locs
 | []=>[]
 |(j,b)::r=>(j,b.map f)::lmap f r
def AS.freeze (σ:AS)(i:Nat):AS :=
 match lget σ.locs i with
 |some (.row c xs)=>⟨frzL i c xs σ.slots,σ.gs,lmap (frzL i c xs) (ldel σ.locs i)⟩
 |_=>σ
def AS.freezeL (σ:AS):List Nat→AS
 | []=>σ
 |i::r=>(σ.freeze i).freezeL r
def AS.fzv:List Nat→AS→AV→AV
 | [],_,a=>a
 |i::r,σ,a=>match lget σ.locs i with
  |some (.row c xs)=>AS.fzv r (σ.freeze i) (frz i c xs a)
  |_=>AS.fzv r (σ.freeze i) a
mutual
/-- The same for a row of bytes that is not older than nb. -/
def frzY (nb i:Nat)(xs:List UInt8):AV→AV
 |.row c' j o n=>match Nat.beq i j with
  |true=>match Nat.beq 0 c' with
   |true=>.both (.sl 0 ((xs.drop o).take n)) (.wsl nb n)
   |false=>.dead
  |false=>.row c' j o n
 |.eptr c' j x o=>match Nat.beq i j with
  |true=>.dead
  |false=>.eptr c' j x o
 |.ptr j o=>match Nat.beq i j with|true=>.dead|false=>.ptr j o
 |.agg l=>.agg (qhQ nb i xs l)
 |.tup l=>.tup (qhQ nb i xs l)
 |.fn g a b=>.fn g (qhQ nb i xs a) (qhQ nb i xs b)
 |.cond g w v=>.cond g w (frzY nb i xs v)
 |x=>x
def qhQ (nb i:Nat)(xs:List UInt8):List AV→List AV
 | []=>[]
 |a::r=>frzY nb i xs a::qhQ nb i xs r
end
def AS.young (σ:AS)(nb i:Nat):AS :=
 match lget σ.locs i with
 |some (.row 0 xs)=>⟨qhQ nb i xs σ.slots,σ.gs,lmap (qhQ nb i xs) (ldel σ.locs i)⟩
 |_=>σ
def AS.youngL (σ:AS)(nb:Nat):List Nat→AS
 | []=>σ
 |i::r=>(σ.young nb i).youngL nb r
def qiC:Locs→List Nat
 | []=>[]
 |(i,.row 0 _)::r=>i::qiC r
 |_::r=>qiC r
def AS.kill (σ:AS)(i:Nat):AS:=⟨qbI i σ.slots,σ.gs,lmap (qbI i) σ.locs⟩
def clash:List (Nat×Nat×Bool)→Nat→Bool
 | [],_=>false
 |(_,g,_)::r,d=>match Nat.beq g d with
  |true=>true
  |false=>clash r d
def gdel:List (Nat×Nat×Bool)→Nat→List (Nat×Nat×Bool)
 | [],_=>[]
 |(t,g)::r,d=>match Nat.beq t d with
  |true=>gdel r d
  |false=>(t,g)::gdel r d
def AS.put (σ:AS)(dst:Option Tmp)(g:Gd)(v:AV):AS :=
 match dst with
 |none=>σ
 |some d=>match g with
  |none=>⟨qav σ.slots d v,gdel σ.gs d,σ.locs⟩
  |some (tc,w)=>⟨qav σ.slots d v,(d,tc,w)::gdel σ.gs d,σ.locs⟩
def AS.clash (σ:AS)(dst:Option Tmp):Bool:=match dst with
 |none=>false
 |some d=>Eng.clash σ.gs d
def AS.drop (σ:AS):AS:=⟨σ.gs.foldl (fun s g=>qav s g.1 .dead) σ.slots,[],σ.locs⟩
def conj:List Prop→Prop
 | []=>True
 | [p]=>p
 |p::r=>p∧conj r
def andL:List Prop→Prop→Prop
 | [],q=>q
 |p::r,q=>p∧andL r q
def br (b:Bool)(A B:Prop):Prop:=match b with
 |true=>A
 |false=>B
def andD:List DP→Prop→Prop
 | [],q=>q
 |⟨p,_⟩::r,q=>p∧andD r q
def andB:List DP→Prop→Prop
 | [],q=>q
 |⟨_,d⟩::r,q=>match d with
  |.isTrue _=>andB r q
  |.isFalse _=>False
def andE (lit:Bool)(l:List DP)(q:Prop):Prop:=match lit with
 |true=>andB l q
 |false=>andD l q
def and1 (lit:Bool)(p:Prop) [d:Decidable p](q:Prop):Prop:=match lit with
 |true=>(match d with
  |.isTrue _=>q
  |.isFalse _=>False)
 |false=>p∧q
def qa7 (n:Nat)(k:Nat→Prop):Prop:=Nat.rec (motive:=fun _=>Prop) (k 0) (fun m _=>k (Nat.succ m)) n
def forceP (p:Nat×Option Nat)(k:Nat→Prop):Prop:=match p with
 |(n,_)=>k n
def q6n (n:Int)(k:Int→Prop):Prop:=match n with
 |.ofNat n=>qa7 n fun m=>k (.ofNat m)
 |.negSucc n=>qa7 n fun m=>k (.negSucc m)
def q6o (b:Bool)(k:Bool→Prop):Prop:=match b with
 |true=>k true
 |false=>k false
def q6p:(c:Nat)→ty c→(ty c→Prop)→Prop
 |0,x,k=>qa7 (UInt8.toNat x) fun n=>k (UInt8.ofNat n)
 |1,x,k=>q6n x k
 |2,x,k=>qa7 (UInt32.toNat x) fun n=>k (UInt32.ofNat n)
 |3,x,k=>qa7 (UInt64.toNat x) fun n=>k (UInt64.ofNat n)
 |4,x,k=>q6o x k
 |_+5,x,k=>k x
def qrU (c:Nat):List (ty c)→(List (ty c)→Prop)→Prop
 | [],k=>k []
 |x::r,k=>q6p c x fun x=>qrU c r fun r=>k (x::r)
def qu8 (v:AV)(k:AV→Prop):Prop:=match v with
 |.int κ n=>q6n n fun n=>k (.int κ n)
 |.bool b=>q6o b fun b=>k (.bool b)
 |.str s=>k (.str s)
 |.nilptr=>k .nilptr
 |.nilsl=>k .nilsl
 |.nilfn=>k .nilfn
 |.sl c xs=>qrU c xs fun xs=>k (.sl c xs)
 |.iref c x o=>q6p c x fun x=>qa7 o fun o=>k (.iref c x o)
 |.row c i o n=>qa7 i fun i=>qa7 o fun o=>qa7 n fun n=>k (.row c i o n)
 |.ptr i o=>qa7 i fun i=>qa7 o fun o=>k (.ptr i o)
 |.eptr c i x o=>qa7 i fun i=>qa7 x fun x=>qa7 o fun o=>k (.eptr c i x o)
 |.agg l=>k (.agg l)
 |.tup l=>k (.tup l)
 |.fn f a b=>k (.fn f a b)
 |.dead=>k .dead
 |.cond b w v=>k (.cond b w v)
 |.val v=>k (.val v)
 |.both a b=>k (.both a b)
 |.wsl nb n=>k (.wsl nb n)
 |.wref nb=>k (.wref nb)
 |.anyb=>k .anyb
def qrV:List AV→(List AV→Prop)→Prop
 | [],k=>k []
 |x::r,k=>qu8 x fun x=>qrV r fun r=>k (x::r)
def q6q:List AV→(List AV→Prop)→Prop
 | [],k=>k []
 |x::r,k=>q6q r fun r=>k (x::r)
def qwN:Locs→(Locs→Prop)→Prop
 | [],k=>k []
 |(i,.cells cs)::r,k=>qwN r fun r=>k ((i,.cells cs)::r)
 |(i,.row c xs)::r,k=>qwN r fun r=>k ((i,.row c xs)::r)
def bindC (lit:Bool)(l:List AV)(k:List AV→Prop):Prop:=match lit with
 |true=>qrV l k
 |false=>k l
def q6r (lit:Bool)(c:Nat)(l:List (ty c))(k:List (ty c)→Prop):Prop:=match lit with
 |true=>qrU c l k
 |false=>∀ zs,zs=l→k zs
def bindY (lit:Bool)(c:Nat)(l:List (ty c))(k:List (ty c)→Prop):Prop:=match lit with
 |true=>qrU c l k
 |false=>k l
structure Spec where
 ro:Bool
 own:List Bool
 lend:Nat→Bool:=fun _=>true
 run:List AV→List Blk→(AV→List (Option Blk)→List Blk→Prop)→Prop
structure LoopAnn where
 V:Type
 st:V→AS
 I:V→Prop
 μ:V→Nat
 boxes:List (Nat×Nat×Nat):=[]
 key:V→Nat:=fun _=>0
structure CutAnn where
 V:Type
 st:V→AS
 I:V→Prop
 boxes:List (Nat×Nat×Nat):=[]
 key:V→Nat:=fun _=>0
structure Env where
 P:Program
 code:TypeId→Nat
 spec:FuncId→Option Spec
 loops:List Nat→Nat→Option LoopAnn
 cuts:List Nat→Nat→Option CutAnn
 stack:List Nat:=[]
 lit:Bool:=false
 fuel:Nat:=0
 off:Nat:=0
 mode:Nat→Nat:=fun _=>0
 yw:Nat×Option Nat:=(0,none)
def Env.push (env:Env)(n:Nat):Env:=⟨env.P,env.code,env.spec,env.loops,env.cuts,n::env.stack,env.lit,env.fuel,env.off,env.mode,env.yw⟩
def Env.rnd (env:Env)(n:Nat):Env:=match env.lit with
 |true=>env
 |false=>⟨env.P,env.code,env.spec,env.loops,env.cuts,n::env.stack,env.lit,env.fuel,(env.off+n+1)*1000000,env.mode,env.yw⟩
def irf (i:Nat)(x:TickT):AV→AV
 |.ptr j o=>match Nat.beq j i with
  |true=>.iref 27 x o
  |false=>.ptr j o
 |a=>a
def ptrTo (i:Nat):List AV→Bool
 | []=>false
 |a::r=>match a with
  |.ptr j _=>match Nat.beq j i with
   |true=>true
   |false=>ptrTo i r
  |_=>ptrTo i r
def irfL (i:Nat)(cs:List AV)(l:List AV):List AV:=match ptrTo i l with
 |true=>match qu6 cs with
  |some x=>l.map (irf i x)
  |none=>l
 |false=>l
def qrp (L:Locs):Locs→List AV→List AV
 | [],l=>l
 |(i,.row c xs)::r,l=>qrp L r (frzL i c xs l)
 |(i,.cells cs)::r,l=>qrp L r (irfL i cs l)
mutual
def qfv:AV→Bool
 |.row .. | .ptr .. | .eptr .. | .cond ..=>false
 |.agg l|.tup l=>qcn l
 |.fn _ a b=>qcn a&&qcn b
 |_=>true
def qcn:List AV→Bool
 | []=>true
 |a::r=>qfv a&&qcn r
end
mutual
def qrq:AV→Bool
 |.sl .. | .iref .. | .cond .. | .both .. | .wsl .. | .wref ..=>false
 |.agg l|.tup l=>qh9 l
 |.fn _ a b=>qh9 a&&qh9 b
 |_=>true
def qh9:List AV→Bool
 | []=>true
 |a::r=>qrq a&&qh9 r
end
def qb8 (L:Locs)(i:Nat):Bool:=match lget L i with
 |none=>Nat.ble 900 i
 |some _=>false
def qeg (s:Nat):Blk→Blk
 |.cells cs=>.cells (renL (· + s) cs)
 |.row c xs=>.row c xs
def layF (L:Locs)(s:Nat):Nat→List Blk→Locs
 |_,[]=>L
 |j,b::r=>(j+s,qeg s b)::layF L s (j+1) r
def qaU (L:Locs)(s:Nat):Nat→List Blk→Bool
 |_,[]=>true
 |j,_::r=>qb8 L (j+s)&&qaU L s (j+1) r
def inK:IntKind→Int→Prop
 |.u8,x=>0≤x∧x≤255
 |.u32,x=>0≤x∧x≤4294967295
 |.u64,x=>0≤x∧x≤18446744073709551615
 |.i64,x=>-9223372036854775808≤x∧x≤9223372036854775807
 |_,_=>True
def named:Op→Bool
 |.binOp .. | .unOp .. | .convert .. | .load .. | .index ..=>true
 |.call c=>match c.callee with
  |.builtin .min|.builtin .max|.builtin .len=>true
  |_=>false
 |_=>false
def qlV (b:Bool)(v:AV)(k:AV→Prop):Prop:=match b,v with
 |true,.int κ e=>∀ x:Int,x=e→inK κ x→k (.int κ x)
 |_,v=>k v
def q4A (b:Bool)(v:AV)(k:AV→Prop):Prop:=match b,v with
 |true,.int κ e=>∀ x:Int,x=e→k (.int κ x)
 |_,v=>k v
def qu9 (lit b:Bool)(v:AV)(k:AV→Prop):Prop:=match lit with
 |true=>qu8 v k
 |false=>qlV b v k
def q6s:AV→(AV→Prop)→Prop
 |.int κ e,k=>(0≤e∧e≤1)∧(e=0→k (.int κ 0))∧(e=1→k (.int κ 1))
 |v,k=>k v
def bindM (m:Nat)(lit b:Bool)(v:AV)(k:AV→Prop):Prop:=match m with
 |0=>qu9 lit b v k
 |1=>qu8 v k
 |_=>q6s v k
def nthB:List Bool→Nat→Bool
 | [],_=>false
 |b::_,0=>b
 |_::r,n+1=>nthB r n
def nm (own:List Bool)(j:Nat):Nat:=match nthB own j with
 |true=>900+j
 |false=>j
def qco (own:List Bool):Nat→List Blk→Locs
 |_,[]=>[]
 |j,b::r=>(nm own j,b)::qco own (j+1) r
def idx:List Nat→Nat→Nat→Nat
 | [],_,_=>0
 |j::r,i,n=>match Nat.beq i j with
  |true=>n
  |false=>idx r i (n+1)
mutual
/-- Does a value name none but these blocks? -/
def qde (ks:List Nat):AV→Bool
 |.row _ i _ _|.ptr i _|.eptr _ i _ _=>memN i ks
 |.agg l|.tup l=>qbN ks l
 |.fn _ a b=>qbN ks a&&qbN ks b
 |.cond ..=>false
 |_=>true
def qbN (ks:List Nat):List AV→Bool
 | []=>true
 |a::r=>qde ks a&&qbN ks r
end
def qcG:List Nat→Bool
 | []=>true
 |i::r=>!memN i r&&qcG r
def qfw (L:Locs):Nat→List Nat→List Nat→List Nat
 |0,_,acc=>acc
 |_+1,[],acc=>acc
 |n+1,i::todo,acc=>match memN i acc with
  |true=>qfw L n todo acc
  |false=>match lget L i with
   |some (.cells cs)=>qfw L n (todo++idsL cs []) (acc++[i])
   |some (.row _ _)=>qfw L n todo (acc++[i])
   |none=>qfw L n todo acc
def qiD (f:Nat→Nat):Blk→Blk
 |.cells cs=>.cells (renL f cs)
 |.row c xs=>.row c xs
def blkG (L:Locs)(l:List Nat)(f:Nat→Nat)(i:Nat):Option Blk:=match lget L i with
 |some (.cells cs)=>match qbN l cs with
  |true=>some (.cells (renL f cs))
  |false=>none
 |some (.row c xs)=>some (.row c xs)
 |none=>none
def quA (L:Locs)(l:List Nat)(f:Nat→Nat):List Nat→Option (List Blk)
 | []=>some []
 |i::r=>match blkG L l f i,quA L l f r with
  |some b,some bs=>some (b::bs)
  |_,_=>none
def q0t (L:Locs)(l:List Nat)(f:Nat→Nat)(own:List Bool):Nat→Nat→Option (List (Option Blk))
 |_,0=>some []
 |j,n+1=>match nthB own j with
  |true=>match q0t L l f own (j+1) n with
   |some bs=>some (none::bs)
   |none=>none
  |false=>match blkG L l f j,q0t L l f own (j+1) n with
   |some b,some bs=>some (some b::bs)
   |_,_=>none
def pins (own:List Bool):Nat→Nat→List Nat
 |_,0=>[]
 |j,n+1=>match nthB own j with
  |true=>pins own (j+1) n
  |false=>j::pins own (j+1) n
def bigs:List Nat→List Nat
 | []=>[]
 |i::r=>match Nat.ble 900 i with
  |true=>i::bigs r
  |false=>bigs r
def gnum (nB:Nat)(lf:List Nat)(i:Nat):Nat:=match Nat.ble 900 i with
 |true=>nB+idx lf i 0
 |false=>i
def nthN:List Nat→Nat→Nat
 | [],_=>0
 |i::_,0=>i
 |_::r,n+1=>nthN r n
def hnum (l:List Nat)(nB id:Nat)(i:Nat):Nat:=match Nat.blt i nB with
 |true=>nthN l i
 |false=>id+(i-nB)
def qfx:List Nat→List (Option Blk)→List Nat
 |i::r,none::bs=>i::qfx r bs
 |_::r,some _::bs=>qfx r bs
 |_,_=>[]
def AS.killD (σ:AS):List Nat→AS
 | []=>σ
 |i::r=>AS.killD ⟨qbI i σ.slots,σ.gs,lmap (qbI i) (ldel σ.locs i)⟩ r
def setB (f:Nat→Nat):Locs→List Nat→List (Option Blk)→Locs
 |L,i::r,some b::bs=>setB f (lset L i (qiD f b)) r bs
 |L,_::r,none::bs=>setB f L r bs
 |L,_,_=>L
def layG (L:Locs)(f:Nat→Nat)(s:Nat):Nat→List Blk→Locs
 |_,[]=>L
 |j,b::r=>(j+s,qiD f b)::layG L f s (j+1) r
def qeh:Locs→(Locs→Prop)→Prop
 | [],k=>k []
 |(i,.cells cs)::r,k=>qa7 i fun i=>qrV cs fun cs=>qeh r fun r=>k ((i,.cells cs)::r)
 |(i,.row c xs)::r,k=>qa7 i fun i=>qeh r fun r=>k ((i,.row c xs)::r)
def bindK (lit:Bool)(L:Locs)(k:Locs→Prop):Prop:=match lit with
 |true=>qeh L k
 |false=>k L
def quB (lend:Nat→Bool):Nat→List AV→List Nat→List Nat
 |_,[],acc=>acc
 |j,a::r,acc=>quB lend (j+1) r (match lend j with
  |true=>acc
  |false=>ids a acc)
def q2N (env:Env) (σ:AS)(dst:Option Tmp)(l:List Nat)(id:Nat)(k:AS→Prop)(r:AV)(bs:List (Option Blk))(F:List Blk):Prop :=
 let h:=hnum l l.length id
 let σ1:=σ.killD (qfx l bs)
 match qaU σ1.locs id 0 F,σ1.clash dst with
 |true,false=>qu9 env.lit false (ren h r) fun v=>bindK env.lit (layG (setB h σ1.locs l bs) h id 0 F) fun L=>k (AS.put ⟨σ1.slots,σ1.gs,L⟩ dst none v)
 |_,_=>False
def q6t (env:Env) (σ:AS)(dst:Option Tmp)(s:Spec)(args:List AV)(id:Nat)(k:AS→Prop):Prop :=
 let rd:=quB s.lend 0 args []
 let σ':=σ.freezeL rd
 let args':=args.map (AS.fzv rd σ)
 let l:=qfw σ'.locs 1000 (idsL args' []) []
 let f:=fun i=>nm s.own (idx l i 0)
 match quA σ'.locs l f l,qcG l&&qbN l args'&&Nat.ble l.length 100 with
 |some B,true=>s.run (renL f args') B (q2N env σ' dst l id k)
 |_,_=>False
def q2O:AV→AV
 |.both a _=>a
 |x=>x
def q0u:AV→AV
 |.both a _=>a
 |.agg l=>.agg (l.map q2O)
 |x=>x
def qwO (env:Env) (σ:AS)(dst:Option Tmp)(f:FuncId)(args0:List AV)(id:Nat)(k:AS→Prop):Prop :=
 let args:=args0.map q0u
 match env.spec f with
 |none=>False
 |some s=>match s.own with
  |_::_=>q6t env σ dst s args id k
  | []=>match s.ro with
  |true =>
   let args':=qrp σ.locs σ.locs args
   match qcn args' with
   |true=>s.run args' [] fun r _ F=>match qaU σ.locs id 0 F,σ.clash dst with
    |true,false=>qu9 env.lit false (ren (· + id) r) fun v=>k (AS.put ⟨σ.slots,σ.gs,layF σ.locs id 0 F⟩ dst none v)
    |_,_=>False
   |false=>False
  |false =>
   let l:=idsL args []
   let σ':=σ.freezeL l
   let args':=args.map (AS.fzv l σ)
   match qcn args' with
   |true=>s.run args' [] fun r _ F=>match qaU σ'.locs id 0 F,σ'.clash dst with
    |true,false=>qu9 env.lit false (ren (· + id) r) fun v=>k (AS.put ⟨σ'.slots,σ'.gs,layF σ'.locs id 0 F⟩ dst none v)
    |_,_=>False
   |false=>False
def qhA (c:Nat):Nat→List AV→Option (List (ty c))
 |0,_=>none
 |_+1,[]=>some []
 |n+1,cs=>match dec c (qrn cs (szOf c)),qhA c n (qro cs (szOf c)) with
  |some x,some r=>some (x::r)
  |_,_=>none
def AS.new (σ:AS)(id:Nat)(b:Blk):AS:=⟨σ.slots,σ.gs,(id,b)::σ.locs⟩
def qdI (env:Env)(t:TypeId)(cs:List AV):Option Blk :=
 match env.P.underlying t with
 |some (.array _ e) =>
  let c:=env.code e
  match qbu env.P e c with
  |true=>match qhA c (cs.length+1) cs with
   |some xs=>match Nat.ble xs.length maxLen with
    |true=>some (.row c xs)
    |false=>none
   |none=>none
  |false=>match Nat.beq (szOf c) 0 with
   |true=>some (.cells cs)
   |false=>none
 |_=>some (.cells cs)
def q0v (L:Locs)(cd:Nat):AV→Option (Nat×List (ty cd))
 |.nilsl=>some (0,[])
 |.sl c ys=>match decEq c cd with
  |isTrue h=>some (ys.length,(h▸ys:List (ty cd)))
  |isFalse _=>none
 |.row c j o m=>match lget L j with
  |some (.row c' zs)=>match Nat.beq c c',decEq c' cd with
   |true,isTrue h=>some (m,(h▸((zs.drop o).take m):List (ty cd)))
   |_,_=>none
  |_=>none
 |_=>none
def qk3 (env:Env) (σ:AS)(dst:Option Tmp)(e:TypeId)(id m:Nat)(ys:List (ty (env.code e)))(x1:AV)(k:AS→Prop):Prop:=match x1 with
 |.nilsl=>match qb8 σ.locs id with
  |true=>and1 env.lit (m*env.P.bytesOf e≤140737488355328) (q6r env.lit (env.code e) ys fun zs=>k ((σ.new id (.row (env.code e) zs)).put dst none (.row (env.code e) id 0 m)))
  |false=>False
 |.row c1 i 0 n=>match lget σ.locs i with
  |some (.row c' xs)=>match Nat.beq c1 c'&&Nat.ble 900 i,decEq c' (env.code e) with
   |true,isTrue h=>and1 env.lit ((n+m)*env.P.bytesOf e≤140737488355328)
     (q6r env.lit (env.code e) ((h▸xs:List (ty (env.code e))).take n++ys) fun zs=>k (AS.put {(σ.kill i) with locs:=lset (σ.kill i).locs i (.row (env.code e) zs)} dst none (.row (env.code e) i 0 (n+m))))
   |_,_=>False
  |_=>False
 |_=>False
def qiE (env:Env) (σ:AS)(g:Gd)(dst:Option Tmp)(c:Call)(id:Nat)(k:AS→Prop):Prop :=
 match c.args.toList,c.argTypes.toList with
 | [x1,x2],[t,t']=>match qhO env.P t with
  |some e =>
   match qbu env.P e (env.code e)&&Nat.blt 0 (env.P.bytesOf e)&&(match qbt env.P e with|some z=>Nat.beq z.length (szOf (env.code e))|none=>false) with
   |false=>False
   |true=>match Nat.beq t t' with
    |true=>match q0v σ.locs (env.code e) (σ.ev g x2) with
     |none=>False
     |some (m,ys)=>qk3 env σ dst e id m ys (σ.ev g x1) k
    |false=>match env.P.underlying t',σ.ev g x2,(match qbt env.P e with|some z=>dec (env.code e) z|none=>none) with
     |some (.int _),.int .i64 n,some x=>and1 env.lit (0≤n) (qk3 env σ dst e id n.toNat (List.replicate n.toNat x) (σ.ev g x1) k)
     |_,_,_=>False
  |none=>False
 |_,_=>False
def oneT (P:Program)(e:TypeId):Bool:=match P.info? e with
 |some i=>Nat.beq i.size 1
 |none=>false
def qwP (env:Env) (σ:AS)(g:Gd)(dst:Option Tmp)(c:Call)(k:AS→Prop):Prop :=
 match c.args.toList,c.argTypes.toList with
 | [x1,x2],[t,t']=>match qhO env.P t with
  |some e=>match σ.ev g x1 with
   |.row c1 i o n=>match oneT env.P e&&Nat.beq (szOf c1) 1,q0v σ.locs c1 (σ.ev g x2),lget σ.locs i with
    |true,some (m,ys),some (.row c2 xs)=>match decEq c2 c1 with
     |isTrue h=>q6r env.lit c1 ((h▸xs:List (ty c1)).take o++ys.take (Nat.min m n)++(h▸xs:List (ty c1)).drop (o+Nat.min m n)) fun zs =>
       qu9 env.lit false (.int .i64 (Nat.min m n:Nat)) fun v=>k (AS.put ⟨σ.slots,σ.gs,lset σ.locs i (.row c1 zs)⟩ dst none v)
     |isFalse _=>False
    |_,_,_=>False
   |_=>False
  |none=>False
 |_,_=>False
def byteB:AV→Bool
 |.int .u8 _|.anyb=>true
 |_=>false
mutual
/-- What stands still behind a byte that was written into memory of others. -/
def wkB:AV→Bool
 |.sl .. | .iref .. | .cond ..=>false
 |.both a b=>wkB a&&wkB b
 |.agg l|.tup l=>wkLB l
 |.fn _ a b=>wkLB a&&wkLB b
 |_=>true
def wkLB:List AV→Bool
 | []=>true
 |a::r=>wkB a&&wkLB r
end
def wkeep:AV→AV
 |.both a b=>match wkB a,wkB b with
  |true,true=>.both a b
  |false,true=>b
  |true,false=>a
  |false,false=>.dead
 |x=>match wkB x with
  |true=>x
  |false=>.dead
def wkC:Nat→Bool
 |0|1|2|3|4|5|15|16|17|18|19|20|21|22|23=>true
 |_=>false
def wlB:Locs→Bool
 | []=>true
 |(_,.cells _)::r=>wlB r
 |(_,.row c _)::r=>wkC c&&wlB r
def wlocs:Locs→Locs:=lmap (List.map wkeep)
def qfy (env:Env) (σ:AS)(g:Gd)(o:Oper)(id len:Nat)(parts:Array (Nat×Operand))(e:TypeId)(c:Nat)(k:AS→Prop):Prop :=
 match qbu env.P e c&&Nat.ble (len*szOf c) 16777216&&(match qbt env.P e with|some z=>Nat.beq z.length (szOf c)|none=>false) with
 |false=>False
 |true =>
  let ps:=parts.toList.map fun p=>(p.1,σ.ev g p.2)
  let l:=idsL (ps.map (·.2)) []
  let σ':=σ.freezeL l
  match qfu (fun i=>some (i*szOf c,szOf c)) ((List.range (len*szOf c)).map fun _=>.dead) (parts.toList.map fun p=>(p.1,AS.fzv l σ (σ.ev g p.2))) with
  |none=>False
  |some cs=>match qhA c (cs.length+1) cs with
   |some xs=>bindY env.lit c xs fun xs=>k ((σ'.new id (.row c xs)).put o.dst none (.row c id 0 len))
   |none=>False
def eop (env:Env) (σ:AS)(g:Gd)(o:Oper)(id:Nat)(k:AS→Prop):Prop :=
 match o.op with
 |.alloc t=>match qbt env.P t with
  |some z=>match qdI env t z,qb8 σ.locs id,σ.clash o.dst with
   |some b,true,false=>k ((σ.new id b).put o.dst none (.ptr id 0))
   |_,_,_=>False
  |none=>False
 |.box t x=>match (match Nat.blt 0 (qat (σ.ev g x)).length with|true=>qdI env t (qat (σ.ev g x))|false=>none),qb8 σ.locs id,σ.clash o.dst with
  |some b,true,false=>k ((σ.new id b).put o.dst none (.ptr id 0))
  |_,_,_=>False
 |.store t a x=>match σ.clash o.dst with
  |true=>False
  |false =>
  let cs:=qat (σ.ev g x)
  match Nat.beq cs.length (qbM env.P t)&&Nat.blt 0 cs.length with
  |false=>False
  |true=>match σ.ev g a with
   |.ptr i off=>match lget σ.locs i with
    |some (.cells ds)=>match Nat.ble (off+cs.length) ds.length with
     |true=>bindC env.lit (qfg ds off cs) fun es=>k (AS.put ⟨σ.slots,σ.gs,lset σ.locs i (.cells es)⟩ o.dst none (.tup []))
     |false=>False
    |some (.row c xs)=>match Nat.beq off 0&&Nat.blt 0 (szOf c),qhA c (cs.length+1) cs with
     |true,some ys=>and1 env.lit (ys.length=xs.length) <| bindY env.lit c ys fun ys=>k (AS.put ⟨σ.slots,σ.gs,lset σ.locs i (.row c ys)⟩ o.dst none (.tup []))
     |_,_=>False
    |none=>False
   |.eptr c i idx off =>
    let σ':=σ.freezeL (idsL cs [])
    let cs':=cs.map (AS.fzv (idsL cs []) σ)
    match lget σ'.locs i with
    |some (.row c' xs)=>match Nat.beq c c',dec c' (qfg (enc c' (xs.getD idx (dflt c'))) off cs') with
     |true,some y=>and1 env.lit (idx<xs.length) <| q6r env.lit c' (xs.set idx y) fun zs=>k (AS.put ⟨σ'.slots,σ'.gs,lset σ'.locs i (.row c' zs)⟩ o.dst none (.tup []))
     |_,_=>False
    |_=>False
   |.wref nb=>match cs with
    | [c]=>match env.yw.2,byteB c&&wlB σ.locs with
     |some n,true=>n≤nb∧k (AS.put ⟨σ.slots.map wkeep,σ.gs,wlocs σ.locs⟩ o.dst none (.tup []))
     |_,_=>False
    |_=>False
   |_=>False
 |.buildSlice t len parts=>match qhO env.P t,σ.clash o.dst,qb8 σ.locs id with
  |some e,false,true=>match env.mode (id % 1000000) with
   |4=>qfy env σ g o id len parts e 6 k
   |5=>qfy env σ g o id len parts e 8 k
   |6=>qfy env σ g o id len parts e 9 k
   |_=>qfy env σ g o id len parts e (env.code e) k
  |_,_,_=>False
 |.makeSlice t len cap=>match qhO env.P t,σ.clash o.dst,qb8 σ.locs id,σ.ev g len,σ.ev g cap with
  |some e,false,true,.int .i64 n,.int .i64 m =>
   let c:=env.code e
   match qbu env.P e c,qbt env.P e with
   |true,some z=>match dec c z with
    |some x=>and1 env.lit (0≤n∧n≤m∧m*env.P.bytesOf e≤140737488355328) <| bindY env.lit c (List.replicate n.toNat x) fun xs=>qu9 env.lit false (.row c id 0 n.toNat) fun v=>k ((σ.new id (.row c xs)).put o.dst none v)
    |none=>False
   |_,_=>False
  |_,_,_,_,_=>False
 |.convert s d x=>match env.P.underlying s,env.P.underlying d,σ.ev g x,σ.clash o.dst with
  |some (.slice e),some (.slice e'),.row c i a n,false=>match Nat.beq s d,env.P.underlying e',env.P.underlying e with
   |true,some (.int .u8),some (.int .u8)=>match lget σ.locs i with
    |some (.row c' xs)=>match Nat.beq c c' with
     |true=>and1 env.lit (0<n) <| qu9 env.lit false (.sl c' ((xs.drop a).take n)) fun v=>k ((σ.freeze i).put o.dst none v)
     |false=>False
    |_=>False
   |_,_,_=>False
  |_,_,_,_=>False
 |.binOp op t x y _=>match op,env.P.underlying t,σ.ev g x,σ.ev g y,σ.clash o.dst with
  |.eql,some (.slice _),.sl _ xs,.nilsl,false=>match env.lit,xs with
   |true,_::_=>k (σ.put o.dst none (.bool false))
   |_,_=>∀ b:Bool,(b=true→xs=[])→k (σ.put o.dst none (.bool b))
  |.neq,some (.slice _),.sl _ xs,.nilsl,false=>match env.lit,xs with
   |true,_::_=>k (σ.put o.dst none (.bool true))
   |_,_=>∀ b:Bool,(b=false→xs=[])→k (σ.put o.dst none (.bool b))
  |.eql,some (.slice _),.row _ _ _ n,.nilsl,false=>match env.lit,n with
   |true,_+1=>k (σ.put o.dst none (.bool false))
   |_,_=>∀ b:Bool,(b=true→n=0)→k (σ.put o.dst none (.bool b))
  |.neq,some (.slice _),.row _ _ _ n,.nilsl,false=>match env.lit,n with
   |true,_+1=>k (σ.put o.dst none (.bool true))
   |_,_=>∀ b:Bool,(b=false→n=0)→k (σ.put o.dst none (.bool b))
  |_,_,_,_,_=>False
 |.call c=>match c.callee,σ.clash o.dst with
  |.builtin .append,false=>qiE env σ g o.dst c id k
  |.builtin .copy,false=>qwP env σ g o.dst c k
  |.value f,false=>match σ.ev g f with
   |.fn (.func n) first captured=>qwO env σ o.dst n (first++c.args.toList.map (σ.ev g)++captured) id k
   |_=>False
  |_,_=>False
 |_=>False
def q0w (σ:AS):Nat→Nat→Bool→List Prop
 |0,_,_=>[]
 |n+1,tc,w=>match gget σ.gs tc with
  |none=>match nth σ.slots tc with
   |.bool b=>[b=w]
   |_=>[]
  |some (tc',w')=>match nth σ.slots tc with
   |.bool b=>(b=w)::q0w σ n tc' w'
   |_=>q0w σ n tc' w'
def conjD:List DP→Prop
 | []=>True
 | [⟨p,_⟩]=>p
 |⟨p,_⟩::r=>p∧conjD r
def q6u (g:List Prop):List DP→Prop→Prop
 | [],q=>q
 |p::r,q=>(conj g→conjD (p::r))∧q
def qk4 (σ:AS):Nat→Nat→(AS→Prop)→Prop
 |0,_,_=>False
 |n+1,tc,k=>match gget σ.gs tc with
  |none=>match nth σ.slots tc with
   |.bool b=>br b (k {σ with slots:=qav σ.slots tc (.bool true)}) (k {σ with slots:=qav σ.slots tc (.bool false)})
   |.tup []=>k σ
   |_=>False
  |some (tc',_)=>qk4 σ n tc' fun σ'=>match gget σ'.gs tc with
   |none=>False
   |some (tc2,w')=>match Nat.beq tc2 tc' with
    |false=>False
    |true=>match nth σ'.slots tc' with
     |.bool b=>match beqB b w' with
      |true=>match nth σ'.slots tc with
       |.bool b=>br b (k {σ' with slots:=qav σ'.slots tc (.bool true),gs:=gdel σ'.gs tc}) (k {σ' with slots:=qav σ'.slots tc (.bool false),gs:=gdel σ'.gs tc})
       |.tup []=>k {σ' with gs:=gdel σ'.gs tc}
       |_=>False
      |false=>k {σ' with slots:=qav σ'.slots tc (.tup []),gs:=gdel σ'.gs tc}
     |.tup []=>k {σ' with slots:=qav σ'.slots tc (.tup []),gs:=gdel σ'.gs tc}
     |_=>False
def noGs:List (Nat×Nat×Bool)→Bool
 | []=>true
 |_=>false
def q6v:Locs→Nat→Nat
 | [],n=>n
 |(j,_)::r,n=>q6v r (match Nat.ble n j with|true=>j+1|false=>n)
def qoe (env:Env) (σ:AS)(g:Gd)(o:Oper)(id:Nat)(K:AS→Prop):Prop :=
 match pop env.P σ g o with
 |.ok pre v=>andE env.lit pre (match σ.clash o.dst with
  |true=>False
  |false=>bindM (env.mode (id % 1000000)) env.lit (named o.op) v fun v=>K (σ.put o.dst none v))
 |.bad=>match env.lit with
  |true=>qa7 (q6v σ.locs 900) fun id=>eop env σ g o id K
  |false=>match env.mode (id % 1000000) with
   |3=>forceP env.yw fun y=>eop env (σ.youngL y (qiC σ.locs)) g o id K
   |_=>eop env σ g o id K
def qfz (σ:AS)(o:Oper)(K:AS→Prop):Prop:=match σ.clash o.dst with
 |true=>False
 |false=>K (σ.put o.dst none (.tup []))
def qrr (env:Env)(all:List Oper)(o:Oper)(id:Nat) (σ:AS)(K:AS→Prop):Prop :=
 match o.guard with
 |none=>qoe env σ none o id K
 |some (j,w)=>match (all[j]?).bind (·.dst) with
  |none=>False
  |some tc=>match env.lit with
   |true=>match noGs σ.gs,nth σ.slots tc with
    |true,.bool b=>match beqB b w with
     |true=>qoe env σ (some (tc,w)) o id K
     |false=>qfz σ o K
    |true,.tup []=>qfz σ o K
    |_,_=>False
   |false=>match pop env.P σ (some (tc,w)) o with
    |.ok pre v=>q6u (q0w σ 20 tc w) pre (match σ.clash o.dst,(match o.dst with|some d=>Nat.beq d tc|none=>false) with
     |false,false=>q4A (named o.op) v fun v=>K (σ.put o.dst (some (tc,w)) v)
     |_,_=>False)
    |.bad=>qk4 σ 20 tc fun σ'=>match nth σ'.slots tc with
     |.bool b=>match beqB b w with
      |true=>qoe env σ' (some (tc,w)) o id K
      |false=>qfz σ' o K
     |_=>qfz σ' o K
def q6w (env:Env) (σ:AS)(k:AS→Prop):Prop:=match env.lit with
 |true=>q6q σ.drop.slots fun sl=>qwN σ.drop.locs fun L=>k ⟨sl,[],L⟩
 |false=>k σ.drop
def q4B (env:Env)(all:List Oper):List Oper→Nat→AS→(AS→Prop)→Prop
 | [],_,σ,k=>q6w env σ k
 |o::rest,id,σ,k=>qrr env all o id σ fun σ'=>q4B env all rest (id+1) σ' k
def qrW (n m:Nat):List Edge→Bool
 | []=>true
 |e::r=>match Region.binds .any e with
  |false=>qrW n m r
  |true=>match Nat.blt e.on n&&Nat.testBit m e.on with
   |true=>qrW n m r
   |false=>false
def qiF (n m:Nat):List Oper→Nat→List Nat
 | [],_=>[]
 |o::r,i=>match !Nat.testBit m i&&qrW n m o.after.toList with
  |true=>i::qiF n m r (i+1)
  |false=>qiF n m r (i+1)
def qb9 (env:Env)(f:FuncId):Bool:=match env.spec f with
 |some s=>match s.own with
  | []=>false
  |_=>true
 |none=>true
def nilOps:List Operand→Bool
 |.const (.slice none 0 0)::_=>true
 |_=>false
def qcH (lf:FuncId→Bool):Op→Bool
 |.store ..=>false
 |.call c=>match c.callee with
  |.builtin .append=>nilOps c.args.toList
  |.builtin .copy=>false
  |.value (.func f)=>!lf f
  |.value _=>false
  |_=>true
 |_=>true
def quC:Op→Bool
 |.extract .. | .move _|.assign _=>true
 |_=>false
def q2P (i D:Nat):List Edge→Bool
 | []=>false
 |e::r=>match Region.binds .any e&&(Nat.beq e.on i||Nat.testBit D e.on) with
  |true=>true
  |false=>q2P i D r
def depM (i:Nat):List Oper→Nat→Nat→Nat
 | [],_,D=>D
 |o::r,j,D=>match q2P i D o.after.toList with
  |true=>depM i r (j+1) (D ||| 2 ^ j)
  |false=>depM i r (j+1) D
def q6x (n:Nat)(k:Nat→Bool):Bool:=Nat.rec (motive:=fun _=>Bool) (k 0) (fun m _=>k (Nat.succ m)) n
def q0x (lf:FuncId→Bool)(ops:Array Oper)(m i D:Nat)(oi:Oper):List Oper→Nat→Bool
 | [],_=>true
 |o::r,j=>match Nat.beq j i||(match Nat.testBit D j with|true=>!Nat.testBit m j|false=>Nat.testBit m j||(oi.apart ops o&&(qcH lf o.op||quC oi.op))) with
  |true=>q0x lf ops m i D oi r (j+1)
  |false=>false
def popB (env:Env) (σ:AS)(all:List Oper)(o:Oper):Bool:=match o.guard with
 |none=>match pop env.P σ none o with
  |.ok _ _=>true
  |.bad=>false
 |some (j,w)=>match (all[j]?).bind (·.dst) with
  |none=>false
  |some tc=>match env.lit with
   |true=>match noGs σ.gs,nth σ.slots tc with
    |true,.bool b=>match beqB b w with
     |true=>match pop env.P σ (some (tc,w)) o with
      |.ok _ _=>true
      |.bad=>false
     |false=>true
    |true,.tup []=>true
    |_,_=>false
   |false=>match pop env.P σ (some (tc,w)) o with
    |.ok _ _=>true
    |.bad=>false
def q6y (env:Env) (σ:AS)(ops:Array Oper)(m:Nat):List Nat→Option (Nat×Oper)
 | []=>none
 |i::r=>match ops.toList[i]? with
  |none=>none
  |some o=>match popB env σ ops.toList o&&q6x (depM i ops.toList 0 0) (fun D=>q0x (qb9 env) ops m i D o ops.toList 0) with
   |true=>some (i,o)
   |false=>q6y env σ ops m r
def allM (ops:List Oper)(f:Nat→Oper→Prop):List Nat→Prop
 | []=>True
 |i::r=>match r with
  | []=>(match ops[i]? with|some o=>f i o|none=>False)
  |_=>(match ops[i]? with|some o=>f i o|none=>False)∧allM ops f r
def qof (env:Env)(ops:Array Oper)(id:Nat):Nat→Nat→AS→(AS→Prop)→Prop
 |0,m,σ,k=>match qiF ops.toList.length m ops.toList 0 with
  | []=>q6w env σ k
  |_=>False
 |n+1,m,σ,k=>match qiF ops.toList.length m ops.toList 0 with
  | []=>q6w env σ k
  |rs=>match q6y env σ ops m rs with
   |some (i,o)=>qrr env ops.toList o (id+i) σ fun σ'=>qa7 (m ||| 2 ^ i) fun m=>qof env ops id n m σ' k
   |none=>allM ops.toList (fun i o=>qrr env ops.toList o (id+i) σ fun σ'=>qa7 (m ||| 2 ^ i) fun m=>qof env ops id n m σ' k) rs
def q4C:List Oper→Bool
 | []=>true
 |o::r=>match o.op with
  |.select ..=>false
  |_=>q4C r
inductive Ex where
 |norm|exit (id:Nat)|ret
def qaM:Code→Option Nat
 |.region id _ _=>some id
 |.seq a b=>match qaM a with
  |some n=>some n
  |none=>qaM b
 |.cond _ a b=>match qaM a with
  |some n=>some n
  |none=>qaM b
 |.block _ c|.loop c|.scope c=>qaM c
 |_=>none
def slEq (c:Nat)(xs:List (ty c))(c':Nat)(ys:List (ty c')):List Prop :=
 match decEq c c' with
 |isTrue h=>[(h▸xs:List (ty c'))=ys]
 |isFalse _=>[False]
def elEq (c:Nat)(x:ty c)(c':Nat)(y:ty c'):List Prop :=
 match decEq c c' with
 |isTrue h=>[(h▸x:ty c')=y]
 |isFalse _=>[False]
def ifB (b:Bool)(l:List Prop):List Prop:=match b with
 |true=>l
 |false=>[False]
def rowC (c c':Nat):Bool:=match Nat.beq c c' with
 |true=>true
 |false=>(Nat.beq c 12&&Nat.beq c' 15)||(Nat.beq c 13&&Nat.beq c' 16)
def wEq:(c:Nat)→List (ty c)→(c':Nat)→List (ty c')→List Prop
 |12,xs,15,ys=>[xs.map YMsg.wild=ys]
 |13,xs,16,ys=>[xs.map YPut.wild=ys]
 |c,xs,c',ys=>slEq c xs c' ys
mutual
/-- A value fits a pattern. -/
def fit:AV→AV→List Prop
 |_,.dead=>[]
 |.int k x,.int k' y=>ifB (qcc k k') [x=y]
 |.bool x,.bool y=>[x=y]
 |.str x,.str y=>[x=y]
 |.nilptr,.nilptr|.nilsl,.nilsl|.nilfn,.nilfn=>[]
 |.nilsl,.sl _ ys=>[ys=[]]
 |.sl c xs,.sl c' ys=>slEq c xs c' ys
 |.iref c x o,.iref c' y o'=>(o=o')::elEq c x c' y
 |.row c i o n,.row c' i' o' n'=>ifB (rowC c c'&&Nat.beq i i') [o=o',n=n']
 |.val v,.val v'=>[v=v']
 |.both _ (.val v),.val v'=>[v=v']
 |.ptr i o,.ptr i' o'=>ifB (Nat.beq i i'&&Nat.beq o o') []
 |.eptr c i x o,.eptr c' i' x' o'=>ifB (Nat.beq c c'&&Nat.beq i i'&&Nat.beq o o') [x=x']
 |.agg l,.agg m=>fitL l m
 |.tup l,.tup m=>fitL l m
 |.fn (.func f) a b,.fn (.func f') a' b'=>ifB (Nat.beq f f') (fitL a a'++fitL b b')
 |_,_=>[False]
def fitL:List AV→List AV→List Prop
 | [],[]=>[]
 |a::r,b::s=>fit a b++fitL r s
 |_,_=>[False]
end
def fitBlk:Blk→Blk→List Prop
 |.cells l,.cells m=>fitL l m
 |.row c xs,.row c' ys=>wEq c xs c' ys
 |_,_=>[False]
def q6z (L:Locs):Locs→List Prop
 | []=>[]
 |(i,b)::r=>(match lget L i with
  |some b'=>fitBlk b' b
  |none=>[False])++q6z L r
def qk5 (ks:List Nat):Locs→Bool
 | []=>true
 |(_,.cells cs)::r=>qbN ks cs&&qk5 ks r
 |(_,.row _ _)::r=>qk5 ks r
def fits (σ τ:AS)(q:Prop):Prop :=
 andL (ifB (noGs σ.gs&&noGs τ.gs&&qcG (τ.locs.map (·.1))&&qbN (τ.locs.map (·.1)) τ.slots&&qk5 (τ.locs.map (·.1)) τ.locs) (fitL σ.slots τ.slots++q6z σ.locs τ.locs)) q
def swp (i j k:Nat):Nat:=match Nat.beq k i with
 |true=>j
 |false=>match Nat.beq k j with
  |true=>i
  |false=>k
def qcp (f:Nat→Nat):Locs→Locs
 | []=>[]
 |(k,b)::r=>(f k,qiD f b)::qcp f r
def AS.swap (σ:AS)(i j:Nat):AS:=⟨renL (swp i j) σ.slots,σ.gs,qcp (swp i j) σ.locs⟩
def AS.name (σ:AS)(i j:Nat):AS:=match Nat.beq i j with
 |true=>σ
 |false=>match Nat.ble 900 i&&Nat.ble 900 j with
  |true=>σ.swap i j
  |false=>σ
def AS.box (σ:AS):List (Nat×Nat×Nat)→AS
 | []=>σ
 |(s,id,c)::r=>match Nat.ble 1000000 s with
  |true=>match nth σ.slots ((s-1000000) / 100) with
   |.ptr b _=>match lget σ.locs b with
    |some (.cells cs)=>match nth cs ((s-1000000) % 100) with
     |.nilsl=>match qb8 σ.locs id&&noGs σ.gs with
      |true=>AS.box ⟨σ.slots,σ.gs,lset ((id,.row c [])::σ.locs) b (.cells (qav cs ((s-1000000) % 100) (.row c id 0 0)))⟩ r
      |false=>AS.box σ r
     |.row _ i _ _=>match id with
      |0=>AS.box (σ.freeze i) r
      |_=>AS.box (σ.name i id) r
     |_=>AS.box σ r
    |_=>AS.box σ r
   |.agg cs=>match nth cs ((s-1000000) % 100) with
    |.nilsl=>match qb8 σ.locs id&&noGs σ.gs with
     |true=>AS.box ⟨qav σ.slots ((s-1000000) / 100) (.agg (qav cs ((s-1000000) % 100) (.row c id 0 0))),σ.gs,(id,.row c [])::σ.locs⟩ r
     |false=>AS.box σ r
    |.row _ i _ _=>match id with
     |0=>AS.box (σ.freeze i) r
     |_=>AS.box (σ.name i id) r
    |_=>AS.box σ r
   |_=>AS.box σ r
  |false=>match nth σ.slots s with
   |.nilsl=>match qb8 σ.locs id&&noGs σ.gs with
    |true=>AS.box ⟨qav σ.slots s (.row c id 0 0),σ.gs,(id,.row c [])::σ.locs⟩ r
    |false=>AS.box σ r
   |.row _ i _ _=>match id with
    |0=>AS.box (σ.freeze i) r
    |_=>AS.box (σ.name i id) r
   |_=>AS.box σ r
def vc:Env→Code→AS→(Ex→AS→Prop)→Prop
 |_,.skip,σ,Q=>Q .norm σ
 |env,.region id ops draw,σ,Q=>match draw with
  |false=>q4B env ops.toList ops.toList (env.off+(id+1)*1000) σ (Q .norm)
  |true=>match q4C ops.toList&&env.P.follows .mixedOrders with
   |true=>qof env ops (env.off+(id+1)*1000) ops.toList.length 0 σ (Q .norm)
   |false=>False
 |env,.seq a b,σ,Q=>match (qaM b).bind (env.cuts env.stack) with
  |none=>vc env a σ fun e σ'=>match e with
   |.norm=>vc env b σ' Q
   |e=>Q e σ'
  |some A=>vc env a σ (fun e σ'=>match e with
   |.norm=>∃ v,fits (σ'.box A.boxes) (A.st v) (A.I v)
   |e=>Q e σ')∧∀ v,A.I v→vc (env.push (A.key v)) b (A.st v) Q
 |env,.cond c x y,σ,Q=>match σ.ev none c with
  |.bool b=>br b (vc env x σ Q) (vc env y σ Q)
  |_=>False
 |env,.block id c,σ,Q=>vc env c σ fun e σ'=>match e with
  |.exit i=>match Nat.beq i id with
   |true=>Q .norm σ'
   |false=>Q (.exit i) σ'
  |e=>Q e σ'
 |env,.loop c,σ,Q=>match (qaM c).bind (env.loops env.stack) with
  |none=>Nat.rec (motive:=fun _=>AS→Prop) (fun _=>False) (fun n ih σ=>vc (env.rnd n) c σ fun e σ'=>match e with
   |.norm=>ih σ'
   |e=>Q e σ') env.fuel σ
  |some A=>(∃ v,fits (σ.box A.boxes) (A.st v) (A.I v))∧∀ v,A.I v→vc (env.push (A.key v)) c (A.st v) fun e σ'=>match e with
   |.norm=>∃ v',fits (σ'.box A.boxes) (A.st v') (A.I v'∧A.μ v'<A.μ v)
   |e=>Q e σ'
 |env,.scope c,σ,Q=>vc env c σ Q
 |_,.label _,σ,Q=>Q .norm σ
 |_,.exit id,σ,Q=>Q (.exit id) σ
 |_,.ret,σ,Q=>Q .ret σ
 |_,_,_,_=>False
def qrX (L:Locs)(l:List Nat):List Nat→Option (List Blk)
 | []=>some []
 |i::r=>match lget L i,qrX L l r with
  |some (.cells cs),some bs=>match qbN l cs with
   |true=>some (.cells (renL (fun i=>idx l i 0) cs)::bs)
   |false=>none
  |some (.row c xs),some bs=>some (.row c xs::bs)
  |_,_=>none
def q2Q (P:Program) (σ:AS):ResultVar→Option AV
 |.tmp t=>some (nth σ.slots t)
 |.cell t d=>match qwL P σ.locs d (nth σ.slots t) with
  |.ok [] v=>some v
  |_=>none
def resL (P:Program) (σ:AS):List ResultVar→Option (List AV)
 | []=>some []
 |r::l=>match q2Q P σ r,resL P σ l with
  |some v,some vs=>some (v::vs)
  |_,_=>none
def qwQ (P:Program) (σ:AS)(l:List ResultVar):Option AV:=match resL P σ l with
 |some [v]=>some v
 |some vs=>some (.tup vs)
 |none=>none
def ifP (b:Bool)(p:Prop):Prop:=match b with
 |true=>p
 |false=>False
def scal:Nat→Bool
 |0|1|2|3|4|5|17|18|19|20|21|22|23=>true
 |_=>false
def qhR:List Blk→Bool
 | []=>true
 |.cells cs::r=>qh9 cs&&qhR r
 |.row c _::r=>scal c&&qhR r
def q2R (P:Program)(ro:Bool) (σ:AS)(rs:List ResultVar)(k:AV→List (Option Blk)→List Blk→Prop):Prop :=
 match qwQ P σ rs,noGs σ.gs with
 |some r,true=>match qfw σ.locs 1000 (ids r []) [] with
  |l=>match qrX σ.locs l l with
   |some F=>ifP (qcG l&&qde l r&&(!ro||(qrq r&&qhR F))) (k (ren (fun i=>idx l i 0) r) [] F)
   |none=>False
 |_,_=>False
def pad (args:List AV):Nat→List AV
 |n=>args++List.replicate (n-args.length) (.tup [])
def quD (P:Program)(own:List Bool)(nB:Nat) (σ:AS)(rs:List ResultVar)(k:AV→List (Option Blk)→List Blk→Prop):Prop :=
 match qwQ P σ rs,noGs σ.gs with
 |some r,true=>match qfw σ.locs 1000 (pins own 0 nB++ids r []) [] with
  |l=>match bigs l with
   |lf=>match quA σ.locs l (gnum nB lf) lf,q0t σ.locs l (gnum nB lf) own 0 nB with
    |some F,some bs=>ifP (qcG l&&qde l r) (k (ren (gnum nB lf) r) bs F)
    |_,_=>False
 |_,_=>False
end Go.Eng
namespace Go.Eng
open Go
theorem qaI {k k':IntKind}(h:qcc k k'=true):k=k':=by
 cases k<;>cases k'<;>simp_all [qcc]
theorem qdC {a b:Bool}:beqB a b=true↔a=b:=by cases a<;>cases b<;>simp[beqB]
theorem nbeq {a b:Nat}(h:Nat.beq a b=true):a=b:=Nat.eq_of_beq_eq_true h
theorem qbA {a b:Nat}(h:Nat.beq a b=false):a≠b:=Nat.ne_of_beq_eq_false h
theorem qcw:∀ (l:List AV) (n:Nat),qrn l n=l.take n
 |_,0=>by simp[qrn]
 | [],_+1=>by simp[qrn]
 |a::r,n+1=>by simp[qrn,qcw r n]
theorem qcx:∀ (l:List AV) (n:Nat),qro l n=l.drop n
 |_,0=>by simp[qro]
 | [],_+1=>by simp[qro]
 |a::r,n+1=>by simp[qro,qcx r n]
theorem qne (l:List AV)(n j:Nat)(h:j<n):nth (qrn l n) j=nth l j:=by
 rw[qao,qao,qcw,List.getElem?_take,if_pos h]
theorem qnf (l:List AV)(n j:Nat):nth (qro l n) j=nth l (n+j):=by
 rw[qao,qao,qcx,List.getElem?_drop]
theorem qiG (l:List AV)(j:Nat)(h:l.length≤j):nth l j=.dead:=by
 rw[qao,List.getElem?_eq_none h];rfl
theorem q60 (f:AV→AV)(l:List AV)(j:Nat)(h:j<l.length):nth (l.map f) j=f (nth l j):=by
 rw[qao,qao,List.getElem?_map,List.getElem?_eq_getElem h];rfl
theorem qdD (l:List AV)(i j:Nat)(x:AV):nth (qav l i x) j=if i=j∧j<l.length then x else nth l j:=by
 rw[qb7,qao,qao,List.getElem?_set]
 by_cases h:i=j
 ·
  subst h
  by_cases hl:i<l.length<;>simp[hl]
 ·
  simp[h]
section inv
variable {w : World} {im : Nat → Prop} {ρ : Ids} {v : Value}
theorem Rep.inv_int {k n}(h:Rep w im ρ v (.int k n)):v=.int k n∧kwf k n:=by cases h;exact⟨rfl,‹_›⟩
theorem Rep.inv_bool {b}(h:Rep w im ρ v (.bool b)):v=.bool b:=by cases h;rfl
theorem Rep.inv_str {b}(h:Rep w im ρ v (.str b)):v=.string b∧b.size≤maxLen:=by cases h;exact⟨rfl,‹_›⟩
theorem Rep.inv_nilptr (h:Rep w im ρ v .nilptr):v=.pointer none:=by cases h;rfl
theorem Rep.inv_nilsl (h:Rep w im ρ v .nilsl):v=.slice none 0 0:=by cases h;rfl
theorem Rep.inv_ptr {i o}(h:Rep w im ρ v (.ptr i o)):∃ b m,ρ i=some (some b,m)∧v=.pointer (some ⟨b,o,none⟩):=by cases h;exact⟨_,_,‹_›,rfl⟩
theorem Rep.inv_eptr {c i x o}(h:Rep w im ρ v (.eptr c i x o)):∃ b m,ρ i=some (some b,m)∧v=.pointer (some ⟨b,x*szOf c+o,none⟩):=by
 cases h with|eptr h ho=>subst ho;exact⟨_,_,h,rfl⟩
theorem Rep.inv_agg {cs}(h:Rep w im ρ v (.agg cs)):∃ vs:Array Value,v=.agg vs∧vs.size=cs.length∧(∀ (j:Nat) (v:Value),vs[j]? = some v→v.oneCell'=true)∧∀ (j:Nat) (v:Value),vs[j]? = some v→Rep w im ρ v (nth cs j):=by
 cases h;exact⟨_,rfl,‹_›,‹_›,‹_›⟩
theorem Rep.inv_tup {cs}(h:Rep w im ρ v (.tup cs)):∃ vs:Array Value,v=.tuple vs∧vs.size=cs.length∧∀ (j:Nat) (v:Value),vs[j]? = some v→Rep w im ρ v (nth cs j):=by
 cases h;exact⟨_,rfl,‹_›,‹_›⟩
theorem Rep.inv_fn {f cs ds}(h:Rep w im ρ v (.fn f cs ds)):∃ vs us:Array Value,v=.func f vs us∧vs.size=cs.length∧us.size=ds.length∧(∀ (j:Nat) (v:Value),vs[j]? = some v→Rep w im ρ v (nth cs j))∧∀ (j:Nat) (v:Value),us[j]? = some v→Rep w im ρ v (nth ds j):=by
 cases h;exact⟨_,_,rfl,‹_›,‹_›,‹_›,‹_›⟩
end inv
def BRep (w:World)(im:Nat→Prop) (ρ:Ids)(ob:Option Nat×Nat):Blk→Prop
 |.cells cs=>∃ b cur e,ob.1=some b∧w.heap[b]? = some (.cells cur e (0,0))∧cur.size=cs.length∧(∀ (j:Nat) (v:Value),cur[j]? = some v→v.oneCell'=true) ∧
   ∀ (j:Nat) (v:Value),cur[j]? = some v→Rep w im ρ v (nth cs j)
 |.row c xs=>ob.2=xs.length∧((ob.1=none∧xs=[])∨∃ b cur e cap,ob.1=some b∧w.heap[b]? = some (.cells cur e (0,0))∧cur.size=cap*szOf c∧xs.length≤cap∧cap≤maxLen ∧
   (∀ (j:Nat) (v:Value),cur[j]? = some v→v.oneCell'=true) ∧
   ∀ (i j:Nat) (x:ty c) (v:Value),xs[i]? = some x→j<szOf c→cur[i*szOf c+j]? = some v→Rep w im qai v (nth (enc c x) j))
def SRep (w:World)(im:Nat→Prop) (ρ:Ids)(gs:List (Nat×Nat×Bool))(sl:List AV)(tmps:Array Value)(i:Nat)(v:Value):Prop :=
 match gget gs i with
 |none=>Rep w im ρ v (nth sl i)
 |some (tc,wt)=>(tmps[tc]? = some (.bool wt)→Rep w im ρ v (nth sl i))∧(tmps[tc]?≠some (.bool wt)→v=undef)
structure Bor where
 mem:Nat→Prop
 pin:Ids
 dfs:List Deferred:=[]
def qiH:Bor:=⟨fun _=>False,qai,[]⟩
structure St (w0:World) (bor:Bor) (im0 im:Nat→Prop) (ρ:Ids) (sl:List AV) (gs:List (Nat×Nat×Bool)) (L:Nat→Option Blk) (a:Act) (w:World):Prop where
 defers:a.defers=bor.dfs
 len:a.tmps.size=sl.length
 slot:∀ (i:Nat) (v:Value),a.tmps[i]? = some v→SRep w im ρ gs sl a.tmps i v
 dom:∀ i,L i=none→ρ i=none
 blk:∀ i b,L i=some b→∃ ob,ρ i=some ob∧BRep w im ρ ob b
 inj:∀ i j b m m',ρ i=some (some b,m)→ρ j=some (some b,m')→i=j
 notim:∀ i b m,ρ i=some (some b,m)→¬ im b
 imlt:∀ b,im b→b<w.heap.size
 imold:∀ b,im0 b→im b
 imnew:∀ b,im b→im0 b∨w0.heap.size≤b∨bor.mem b
 own:∀ i b m,ρ i=some (some b,m)→w0.heap.size≤b∨bor.mem b
 pin:∀ i x,i<900→ρ i=some x→bor.pin i=some x
 shp:∀ b,bor.mem b→w.shape? b=w0.shape? b
 blt:∀ b,bor.mem b→b<w0.heap.size
 os:w.os=w0.os
 tape:w.tape=w0.tape
 output:w.output=w0.output
 size:w0.heap.size≤w.heap.size
 frame:∀ b,b<w0.heap.size→¬ bor.mem b→w.heap[b]? = w0.heap[b]?
def Kt (n m:Nat)(tab:List Nat)(w:World)(im:Nat→Prop):Prop:=im n∧∀ j,j<m→w.cell? ⟨n,j,none⟩=some (.int .u8 ((tab.getD j 0:Nat):Int))
def Kc (w:World)(im:Nat→Prop):Prop:=Kt 0 32 Go.Lib.deBruijn32tab w im∧Kt 2 64 Go.Lib.deBruijn64tab w im
theorem Kt.mono {n m:Nat}{tab:List Nat}{w w':World}{im im':Nat→Prop}(h1:∀ b,im b→im' b)(h2:∀ b,im b→w'.heap[b]? = w.heap[b]?)(h:Kt n m tab w im):Kt n m tab w' im' :=
 ⟨h1 n h.1,fun j hj=>by
  have:=h.2 j hj
  unfold World.cell? at this ⊢
  rw[show w'.heap[(⟨n,j,none⟩:Addr).block]? = w.heap[(⟨n,j,none⟩:Addr).block]? from h2 n h.1]
  exact this⟩
theorem Kc.mono {w w':World}{im im':Nat→Prop}(h1:∀ b,im b→im' b)(h2:∀ b,im b→w'.heap[b]? = w.heap[b]?)(h:Kc w im):Kc w' im':=⟨h.1.mono h1 h2,h.2.mono h1 h2⟩
def GdOK (a:Act)(g:Gd):Prop:=∀ tc wt,g=some (tc,wt)→a.tmps[tc]? = some (.bool wt)
theorem qrY (w:World)(im:Nat→Prop) (ρ:Ids)(v:Value):Rep w im ρ v (q2L v):=by
 unfold q2L
 split
 ·
  rename_i k n
  cases h:(decide (k.min≤n)&&decide (n≤k.max)) with
  |true=>simp at h;exact .int h
  |false=>exact .dead
 ·
  exact .bool
 ·
  rename_i s
  cases h:Nat.ble s.size maxLen with
  |true=>exact .str (Nat.le_of_ble_eq_true h)
  |false=>exact .dead
 ·
  exact .nilptr
 ·
  exact .nilsl
 ·
  exact .nilfn
 ·
  exact .dead
theorem quE {α:Type}(f:α→AV)(l:List α)(j:Nat)(x:α)(h:l[j]? = some x):nth (l.map f) j=f x:=by
 rw[qao,List.getElem?_map,h];rfl
theorem qog (w:World)(im:Nat→Prop) (ρ:Ids)(v:Value):Rep w im ρ v (qrm v):=by
 unfold qrm
 split
 ·
  rename_i cs
  cases h:cs.toList.all Value.oneCell' with
  |false=>exact .dead
  |true =>
   simp only[List.all_eq_true] at h
   refine .agg (by simp) (fun j v hv=>h v ?_) (fun j v hv=>?_)
   ·
    rw[← Array.getElem?_toList] at hv
    exact List.mem_of_getElem? hv
   ·
    rw[← Array.getElem?_toList] at hv
    rw[quE _ _ _ _ hv]
    exact qrY ..
 ·
  exact qrY ..
theorem qk6 {σ:AS}{a:Act}(hlen:a.tmps.size=σ.slots.length)(t:Nat):(∃ v,a.tmps[t]? = some v∧a.tmps.getD t undef=v)∨(σ.slots.length≤t):=by
 rcases Nat.lt_or_ge t a.tmps.size with h|h
 ·
  exact .inl ⟨a.tmps[t],by simp[h],by simp[Array.getD,h]⟩
 ·
  exact .inr (by omega)
section ev
variable {w : World} {im : Nat → Prop} {ρ : Ids} {σ : AS} {a : Act} {g : Gd}
variable (hlen : a.tmps.size = σ.slots.length) (hs : ∀ (i : Nat) (v : Value), a.tmps[i]? = some v → SRep w im ρ σ.gs σ.slots a.tmps i v)
include hlen hs
theorem slot_rep (hg:GdOK a g)(t:Nat):Rep w im ρ (a.tmps.getD t undef) (σ.slot g t):=by
 rcases qk6 hlen t with ⟨v,hv,he⟩|hge
 ·
  rw[he]
  have h:=hs t v hv
  unfold SRep at h
  unfold AS.slot
  split
  ·
   rename_i h0;rw[h0] at h;exact h
  ·
   rename_i tc wt h0
   rw[h0] at h
   cases g with
   |none=>exact .dead
   |some g =>
    obtain⟨tc',w'⟩:=g
    dsimp only
    split
    ·
     rename_i hb
     simp only[Bool.and_eq_true] at hb
     have h1:=nbeq hb.1
     have h2:=qdC.1 hb.2
     subst h1;subst h2
     exact h.1 (hg _ _ rfl)
    ·
     exact .dead
 ·
  have hd:σ.slot g t=.dead:=by
   unfold AS.slot
   have:=qiG σ.slots t hge
   split
   ·
    exact this
   ·
    split
    ·
     rfl
    ·
     split
     ·
      exact this
     ·
      rfl
  rw[hd];exact .dead
theorem qwR (hg:GdOK a g)(x:Operand):Rep w im ρ (a.eval x) (σ.ev g x):=by
 cases x with
 |tmp t=>exact slot_rep hlen hs hg t
 |const v=>exact qog ..
 |global n=>exact .dead
 |func f=>exact .fn (by simp) (by simp) (by simp) (by simp)
theorem q2S (hg:GdOK a g){c x:Operand}{wt:Bool}(hc:a.eval c=.bool wt):Rep w im ρ (a.eval x) (σ.pickSlot g c wt x):=by
 unfold AS.pickSlot
 split
 ·
  rename_i t tc
  split
  ·
   rename_i tc' w' h0
   split
   ·
    rename_i hb
    simp only[Bool.and_eq_true] at hb
    have h1:=nbeq hb.1
    have h2:=qdC.1 hb.2
    subst h1;subst h2
    rcases qk6 hlen t with ⟨v,hv,he⟩|hge
    ·
     have h:=hs t v hv
     unfold SRep at h
     rw[h0] at h
     show Rep w im ρ (a.tmps.getD t undef) _
     rw[he]
     refine h.1 ?_
     rcases qk6 hlen tc with ⟨u,hu,hue⟩|hge
     ·
      rw[hu]
      have:a.tmps.getD tc undef=.bool wt:=hc
      rw[hue] at this
      rw[this]
     ·
      exfalso
      have:a.tmps.getD tc undef=.bool wt:=hc
      have h3:a.tmps.size≤tc:=by omega
      simp[Array.getD,Nat.not_lt.2 h3,undef] at this
    ·
     rw[qiG _ _ hge];exact .dead
   ·
    exact qwR hlen hs hg _
  ·
   exact qwR hlen hs hg _
 ·
  exact qwR hlen hs hg _
end ev
end Go.Eng
