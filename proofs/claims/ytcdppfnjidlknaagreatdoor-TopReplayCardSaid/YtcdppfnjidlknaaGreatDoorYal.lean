import Derived.Test.YtcdppfnjidlknaaGreatDoorYak
set_option linter.unusedVariables false
set_option linter.unusedSimpArgs false
namespace Go.Eng
open Go
def qux {α β:Type}(o:Option α)(k:α→Option β):Option β:=match o with
 |some x=>k x
 |none=>none
def req {α:Type}(b:Bool)(q:Option α):Option α:=match b with
 |true=>q
 |false=>none
def letv {α β:Type}(e:α)(k:α→Option β):Option β:=k e
def fixN {V α:Type}(F:(V→Option α)→V→Option α):Nat→V→Option α
 |0,_=>none
 |n+1,v=>F (fixN F n) v
def NN:Nat:=1208925819614629174706176
def fixO {V α:Type}(v:V)(F:(V→Option α)→V→Option α):Option α:=fixN F NN v
open Classical in
noncomputable def q45 {α:Type}(a b:Option α):Option α:=if a=b then a else none
open Classical in
noncomputable def anyO {α β:Type}(f:α→Option β):Option β:=if h:∃ r,∀ x,f x=some r then some h.choose else none
theorem q5O {α β:Type}{f:α→Option β}{r:β}(h:anyO f=some r)(x:α):f x=some r:=by
 unfold anyO at h
 split at h
 ·
  rename_i hh
  rw[← h];exact hh.choose_spec x
 ·
  cases h
theorem anyO_of {α β:Type}{f:α→Option β}{r:β}(x0:α)(h:∀ x,f x=some r):anyO f=some r:=by
 unfold anyO
 have hh:∃ r,∀ x,f x=some r:=⟨r,h⟩
 rw[dif_pos hh,← hh.choose_spec x0,h x0]
theorem q46 {α:Type}(a:Option α):q45 a a=a:=if_pos rfl
structure DOps where
 letv:{α β:Type}→α→(α→Option β)→Option β
 same:{α:Type}→Option α→Option α→Option α
 fix:{V α:Type}→V→((V→Option α)→V→Option α)→Option α
 bind:{α β:Type}→Option α→(α→Option β)→Option β
 join:{α β:Type}→((α→Option β)→Option β)→(α→Option β)→Option β
 any:{α β:Type}→(α→Option β)→Option β
noncomputable def DOps.std:DOps:=⟨Eng.letv,q45,fixO,qux,fun k J=>k J,anyO⟩
noncomputable def DOps.ev:DOps:=⟨Eng.letv,fun a _=>a,fixO,qux,fun k J=>k J,anyO⟩
abbrev qam:List UInt8:=[]
abbrev qfr:List Int:=[]
abbrev nilL2:List UInt32:=[]
abbrev nilL3:List UInt64:=[]
abbrev qh5:List (List UInt8):=[]
abbrev nilL7:List (List Int):=[]
abbrev qwC:List Msg:=[]
abbrev qnX:List Put:=[]
abbrev qaP:List Plan:=[]
abbrev nilL17:List Grp:=[]
abbrev nilL18:List Phs:=[]
abbrev nilL19:List EyeT:=[]
abbrev qft:List SeenT:=[]
abbrev nilL21:List Pls:=[]
abbrev nilL22:List Gpd:=[]
abbrev nilL23:List Lkd:=[]
abbrev nilL24:List Inp:=[]
abbrev KO (R:Type):=AV→List (Option Blk)→List Blk→Option R
structure DSpec where
 ro:Bool
 own:List Bool:=[]
 lend:Nat→Bool:=fun _=>true
 run:DOps→(R:Type)→List AV→List Blk→KO R→Option R
noncomputable def DSpec.to (s:DSpec):Spec:=⟨s.ro,s.own,s.lend,fun args B k=>∃ (R:Type) (K:KO R) (r:R),s.run DOps.std R args B K=some r∧∀ x bs F,K x bs F=some r→k x bs F⟩
inductive PA where
 |nil
 |dead (r:PA)|nilsl (r:PA)|nilptr (r:PA)|nilfn (r:PA)
 |int (k:IntKind) (r:PA)|bool (r:PA)|str (r:PA)
 |lit (k:IntKind) (n:Int) (r:PA)
 |sl (c:Nat) (r:PA)|seg (c:Nat) (r:PA)
 |row (c i:Nat) (r:PA)
 |rown (c i:Nat) (r:PA)
 |ptr (i o:Nat) (r:PA)
 |eptr (c i o:Nat) (r:PA)
 |iref (c o:Nat) (r:PA)
 |agg (l r:PA)
 |tup (l r:PA)
 |fn (f:FuncId) (a b r:PA)
inductive PB where
 |cells (l:PA)
 |row (c:Nat)
structure Pat where
 slots:PA
 blks:List (Nat×PB):=[]
 boxes:List (Nat×Nat×Nat):=[]
 fz:Bool:=false
def PA.dd:Nat→PA→PA
 |0,r=>r
 |n+1,r=>.dead (PA.dd n r)
def qnY:Locs→List Nat
 | []=>[]
 |(i,.row _ _)::r=>match Nat.ble 900 i with
  |true=>i::qnY r
  |false=>qnY r
 |_::r=>qnY r
@[reducible] def PA.V:PA→Type
 |.nil=>Unit
 |.int _ r=>Int×PA.V r
 |.bool r=>Bool×PA.V r
 |.str r=>ByteArray×PA.V r
 |.sl c r=>List (ty c)×PA.V r
 |.seg c r=>ty c×PA.V r
 |.eptr _ _ _ r|.rown _ _ r=>Nat×PA.V r
 |.iref c _ r=>ty c×PA.V r
 |.agg l r|.tup l r=>PA.V l×PA.V r
 |.fn _ a b r=>(PA.V a×PA.V b)×PA.V r
 |.dead r|.nilsl r|.nilptr r|.nilfn r|.row _ _ r|.ptr _ _ r|.lit _ _ r=>PA.V r
def PA.put (len:Nat→Nat):(l:PA)→PA.V l→List AV
 |.nil,_=>[]
 |.int k r,v=>.int k v.1::PA.put len r v.2
 |.lit k n r,v=>.int k n::PA.put len r v
 |.bool r,v=>.bool v.1::PA.put len r v.2
 |.str r,v=>.str v.1::PA.put len r v.2
 |.sl c r,v=>.sl c v.1::PA.put len r v.2
 |.seg c r,v=>enc c v.1++PA.put len r v.2
 |.eptr c i o r,v=>.eptr c i v.1 o::PA.put len r v.2
 |.iref c o r,v=>.iref c v.1 o::PA.put len r v.2
 |.agg l r,v=>.agg (PA.put len l v.1)::PA.put len r v.2
 |.tup l r,v=>.tup (PA.put len l v.1)::PA.put len r v.2
 |.fn f a b r,v=>.fn (.func f) (PA.put len a v.1.1) (PA.put len b v.1.2)::PA.put len r v.2
 |.dead r,v=>.dead::PA.put len r v
 |.nilsl r,v=>.nilsl::PA.put len r v
 |.nilptr r,v=>.nilptr::PA.put len r v
 |.nilfn r,v=>.nilfn::PA.put len r v
 |.row c i r,v=>.row c i 0 (len i)::PA.put len r v
 |.rown c i r,v=>.row c i 0 v.1::PA.put len r v.2
 |.ptr i o r,v=>.ptr i o::PA.put len r v
def sameN (a b:Nat):Bool:=Nat.beq a b
def eqInt (a b:Int):Bool:=@decide (a=b) (Int.instDecidableEq a b)
def PA.get {R:Type}(o:DOps)(len:Nat→Nat):(l:PA)→List AV→(PA.V l→Option R)→Option R
 |.nil,s,k=>match s with
  | []=>k ()
  |_=>none
 |.int κ r,s,k=>match s with
  |.int κ' x::s=>match qcc κ' κ with
   |true=>PA.get o len r s fun v=>k (x,v)
   |false=>none
  |_=>none
 |.lit κ n r,s,k=>match s with
  |.int κ' x::s=>match qcc κ' κ&&eqInt x n with
   |true=>PA.get o len r s k
   |false=>none
  |_=>none
 |.bool r,s,k=>match s with
  |.bool b::s=>PA.get o len r s fun v=>k (b,v)
  |_=>none
 |.str r,s,k=>match s with
  |.str b::s=>PA.get o len r s fun v=>k (b,v)
  |_=>none
 |.sl c r,s,k=>match s with
  |.sl c' xs::s=>match decEq c' c with
   |isTrue h=>PA.get o len r s fun v=>k (h▸xs,v)
   |isFalse _=>none
  |.nilsl::s=>PA.get o len r s fun v=>k ([],v)
  |_=>none
 |.seg c r,s,k=>match dec c (qrn s (szOf c)) with
  |some x=>PA.get o len r (qro s (szOf c)) fun v=>k (x,v)
  |none=>none
 |.eptr c i q r,s,k=>match s with
  |.eptr c' i' x q'::s=>match Nat.beq c' c&&Nat.beq i' i&&Nat.beq q' q with
   |true=>PA.get o len r s fun v=>k (x,v)
   |false=>none
  |_=>none
 |.iref c q r,s,k=>match s with
  |.iref c' x q'::s=>match Nat.beq q' q,decEq c' c with
   |true,isTrue h=>PA.get o len r s fun v=>k (h▸x,v)
   |_,_=>none
  |_=>none
 |.agg l r,s,k=>match s with
  |.agg m::s=>PA.get o len l m fun u=>PA.get o len r s fun v=>k (u,v)
  |_=>none
 |.tup l r,s,k=>match s with
  |.tup m::s=>PA.get o len l m fun u=>PA.get o len r s fun v=>k (u,v)
  |_=>none
 |.fn f a b r,s,k=>match s with
  |.fn (.func f') a' b'::s=>match Nat.beq f' f with
   |true=>PA.get o len a a' fun u1=>PA.get o len b b' fun u2=>PA.get o len r s fun v=>k ((u1,u2),v)
   |false=>none
  |_=>none
 |.dead r,s,k=>match s with
  |_::s=>PA.get o len r s k
  |_=>none
 |.nilsl r,s,k=>match s with
  |.nilsl::s=>PA.get o len r s k
  |_=>none
 |.nilptr r,s,k=>match s with
  |.nilptr::s=>PA.get o len r s k
  |_=>none
 |.nilfn r,s,k=>match s with
  |.nilfn::s=>PA.get o len r s k
  |_=>none
 |.row c i r,s,k=>match s with
  |.row c' i' q n::s=>match Nat.beq c' c&&Nat.beq i' i&&Nat.beq q 0 with
   |true=>req (sameN n (len i)) (PA.get o len r s k)
   |false=>none
  |_=>none
 |.rown c i r,s,k=>match s with
  |.row c' i' q n::s=>match Nat.beq c' c&&Nat.beq i' i&&Nat.beq q 0 with
   |true=>PA.get o len r s fun v=>k (n,v)
   |false=>none
  |_=>none
 |.ptr i q r,s,k=>match s with
  |.ptr i' q'::s=>match Nat.beq i' i&&Nat.beq q' q with
   |true=>PA.get o len r s k
   |false=>none
  |_=>none
@[reducible] def VR:List (Nat×PB)→Type
 | []=>Unit
 |(_,.row c)::r=>List (ty c)×VR r
 |(_,.cells _)::r=>VR r
@[reducible] def VC:List (Nat×PB)→Type
 | []=>Unit
 |(_,.row _)::r=>VC r
 |(_,.cells l)::r=>PA.V l×VC r
def lenR:(bl:List (Nat×PB))→VR bl→Nat→Nat
 | [],_,_=>0
 |(i,.row c)::r,v,j=>match Nat.beq i j with
  |true=>v.1.length
  |false=>lenR r v.2 j
 |(_,.cells _)::r,v,j=>lenR r v j
def qh6 (len:Nat→Nat):(bl:List (Nat×PB))→VR bl→VC bl→Locs
 | [],_,_=>[]
 |(i,.row c)::r,v,u=>(i,.row c v.1)::qh6 len r v.2 u
 |(i,.cells l)::r,v,u=>(i,.cells (PA.put len l u.1))::qh6 len r v u.2
def getR {R:Type}(L:Locs):(bl:List (Nat×PB))→(VR bl→Option R)→Option R
 | [],k=>k ()
 |(i,.row c)::r,k=>match lget L i with
  |some (.row c' xs)=>match decEq c' c with
   |isTrue h=>getR L r fun v=>k (h▸xs,v)
   |isFalse _=>none
  |_=>none
 |(_,.cells _)::r,k=>getR L r k
def getC {R:Type}(o:DOps)(L:Locs)(len:Nat→Nat):(bl:List (Nat×PB))→(VC bl→Option R)→Option R
 | [],k=>k ()
 |(_,.row _)::r,k=>getC o L len r k
 |(i,.cells l)::r,k=>match lget L i with
  |some (.cells cs)=>PA.get o len l cs fun u=>getC o L len r fun v=>k (u,v)
  |_=>none
abbrev Pat.V (p:Pat):Type:=VR p.blks×VC p.blks×PA.V p.slots
def Pat.st (p:Pat)(v:p.V):AS:=⟨PA.put (lenR p.blks v.1) p.slots v.2.2,[],qh6 (lenR p.blks v.1) p.blks v.1 v.2.1⟩
def PA.ids:PA→List Nat→Bool
 |.nil,_=>true
 |.row _ i r,ks|.rown _ i r,ks|.ptr i _ r,ks|.eptr _ i _ r,ks=>memN i ks&&PA.ids r ks
 |.agg l r,ks|.tup l r,ks=>PA.ids l ks&&PA.ids r ks
 |.fn _ a b r,ks=>PA.ids a ks&&PA.ids b ks&&PA.ids r ks
 |.dead r,ks|.nilsl r,ks|.nilptr r,ks|.nilfn r,ks|.lit _ _ r,ks|.int _ r,ks|.bool r,ks|.str r,ks|.sl _ r,ks|.seg _ r,ks|.iref _ _ r,ks=>PA.ids r ks
def PB.ids:List (Nat×PB)→List Nat→Bool
 | [],_=>true
 |(_,.row _)::r,ks=>PB.ids r ks
 |(_,.cells l)::r,ks=>PA.ids l ks&&PB.ids r ks
def qrl:List (Nat×PB)→List Nat
 | []=>[]
 |(i,_)::r=>i::qrl r
def Pat.ok (p:Pat):Bool:=qcG (qrl p.blks)&&PA.ids p.slots (qrl p.blks)&&PB.ids p.blks (qrl p.blks)
def Pat.get {R:Type}(o:DOps)(p:Pat) (σ0:AS)(k:p.V→Option R):Option R :=
 let σ1:=σ0.box p.boxes
 let σ:=match p.fz with
  |true=>σ1.freezeL (qnY σ1.locs)
  |false=>σ1
 match noGs σ.gs&&p.ok with
 |true=>getR σ.locs p.blks fun vr=>getC o σ.locs (lenR p.blks vr) p.blks fun vc=>PA.get o (lenR p.blks vr) p.slots σ.slots fun vs=>k (vr,vc,vs)
 |false=>none
noncomputable section
structure DEnv where
 o:DOps
 P:Program
 code:TypeId→Nat
 spec:FuncId→Option DSpec
 loops:Nat→Option Pat
 cuts:Nat→Option Pat
 rcuts:Nat→Option Pat
 lits:List Nat:=[]
 off:Nat:=0
def DEnv.rnd (e:DEnv)(n:Nat):DEnv:=⟨e.o,e.P,e.code,e.spec,e.loops,e.cuts,e.rcuts,e.lits,(e.off+n+1)*1000000⟩
def DEnv.to (e:DEnv):Env:=⟨e.P,e.code,fun f=>(e.spec f).map DSpec.to,fun _ _=>none,fun _ _=>none,[],false,0,0,fun _=>0,(0,none)⟩
section
variable {R : Type}
def q5P (o:DOps):List DP→Option R→Option R
 | [],q=>q
 |⟨p,d⟩::r,q=>req (@decide p d) (q5P o r q)
abbrev req1 (o:DOps)(p:Prop) [d:Decidable p](q:Option R):Option R:=req (decide p) q
def nameD (σ:AS)(g:Gd):Op→Nat
 |.binOp .. | .unOp .. | .convert .. | .index ..=>1
 |.indexAddr ..=>2
 |.load _ a=>match σ.ev g a with
  |.eptr ..=>1
  |_=>0
 |.call c=>match c.callee with
  |.builtin .min|.builtin .max=>1
  |_=>0
 |_=>0
def q5Q (n:Int)(k:Int→Option R):Option R:=match n with
 |.ofNat n=>Nat.rec (motive:=fun _=>Option R) (k (.ofNat 0)) (fun m _=>k (.ofNat (Nat.succ m))) n
 |.negSucc n=>k (.negSucc n)
def bindD (env:DEnv)(m:Nat)(v:AV)(k:AV→Option R):Option R:=match m with
 |0=>k v
 |3=>match v with
  |.int κ e=>q5Q e fun x=>k (.int κ x)
  |v=>k v
 |1=>match v with
  |.int κ e=>env.o.letv e fun x=>k (.int κ x)
  |v=>k v
 |_=>match v with
  |.iref c e o=>env.o.letv e fun x=>k (.iref c x o)
  |v=>k v
def qnb (env:DEnv) (σ:AS)(dst:Option Tmp)(e:TypeId)(id m:Nat)(ys:List (ty (env.code e)))(x1:AV)(k:AS→Option R):Option R:=match x1 with
 |.nilsl=>match qb8 σ.locs id with
  |true=>req1 env.o (m*env.P.bytesOf e≤140737488355328) (env.o.letv ys fun zs=>k ((σ.new id (.row (env.code e) zs)).put dst none (.row (env.code e) id 0 m)))
  |false=>none
 |.row c1 i 0 n=>match lget σ.locs i with
  |some (.row c' xs)=>match Nat.beq c1 c'&&Nat.ble 900 i,decEq c' (env.code e) with
   |true,isTrue h=>req1 env.o ((n+m)*env.P.bytesOf e≤140737488355328)
     (env.o.letv ((h▸xs:List (ty (env.code e))).take n++ys) fun zs=>k (AS.put {(σ.kill i) with locs:=lset (σ.kill i).locs i (.row (env.code e) zs)} dst none (.row (env.code e) i 0 (n+m))))
   |_,_=>none
  |_=>none
 |_=>none
def q0k (env:DEnv) (σ:AS)(g:Gd)(dst:Option Tmp)(c:Call)(id:Nat)(k:AS→Option R):Option R :=
 match c.args.toList,c.argTypes.toList with
 | [x1,x2],[t,t']=>match qhO env.P t with
  |some e =>
   match qbu env.P e (env.code e)&&Nat.blt 0 (env.P.bytesOf e)&&(match qbt env.P e with|some z=>Nat.beq z.length (szOf (env.code e))|none=>false) with
   |false=>none
   |true=>match Nat.beq t t' with
    |true=>match q0v σ.locs (env.code e) (σ.ev g x2) with
     |none=>none
     |some (m,ys)=>qnb env σ dst e id m ys (σ.ev g x1) k
    |false=>match env.P.underlying t',σ.ev g x2,(match qbt env.P e with|some z=>dec (env.code e) z|none=>none) with
     |some (.int _),.int .i64 n,some x=>req1 env.o (0≤n) (qnb env σ dst e id n.toNat (List.replicate n.toNat x) (σ.ev g x1) k)
     |_,_,_=>none
  |none=>none
 |_,_=>none
def copyD (env:DEnv) (σ:AS)(g:Gd)(dst:Option Tmp)(c:Call)(k:AS→Option R):Option R :=
 match c.args.toList,c.argTypes.toList with
 | [x1,x2],[t,t']=>match qhO env.P t with
  |some e=>match σ.ev g x1 with
   |.row c1 i o n=>match oneT env.P e&&Nat.beq (szOf c1) 1,q0v σ.locs c1 (σ.ev g x2),lget σ.locs i with
    |true,some (m,ys),some (.row c2 xs)=>match decEq c2 c1 with
     |isTrue h=>env.o.letv ((h▸xs:List (ty c1)).take o++ys.take (Nat.min m n)++(h▸xs:List (ty c1)).drop (o+Nat.min m n)) fun zs =>
       k (AS.put ⟨σ.slots,σ.gs,lset σ.locs i (.row c1 zs)⟩ dst none (.int .i64 (Nat.min m n:Nat)))
     |isFalse _=>none
    |_,_,_=>none
   |_=>none
  |none=>none
 |_,_=>none
def q5R (env:DEnv) (σ:AS)(dst:Option Tmp)(l:List Nat)(id:Nat)(k:AS→Option R)(r:AV)(bs:List (Option Blk))(F:List Blk):Option R :=
 let h:=hnum l l.length id
 let σ1:=σ.killD (qfx l bs)
 match qaU σ1.locs id 0 F,σ1.clash dst with
 |true,false=>k (AS.put ⟨σ1.slots,σ1.gs,layG (setB h σ1.locs l bs) h id 0 F⟩ dst none (ren h r))
 |_,_=>none
def q5S (env:DEnv) (σ:AS)(dst:Option Tmp)(s:DSpec)(args:List AV)(id:Nat)(k:AS→Option R):Option R :=
 let rd:=quB s.lend 0 args []
 let σ':=σ.freezeL rd
 let args':=args.map (AS.fzv rd σ)
 let l:=qfw σ'.locs 1000 (idsL args' []) []
 let f:=fun i=>nm s.own (idx l i 0)
 match quA σ'.locs l f l,qcG l&&qbN l args'&&Nat.ble l.length 100 with
 |some B,true=>s.run env.o R (renL f args') B (q5R env σ' dst l id k)
 |_,_=>none
def callD (env:DEnv) (σ:AS)(dst:Option Tmp)(f:FuncId)(args0:List AV)(id:Nat)(k:AS→Option R):Option R :=
 let args:=args0.map q0u
 match env.spec f with
 |none=>none
 |some s=>match s.own with
  |_::_=>q5S env σ dst s args id k
  | []=>match s.ro with
  |true =>
   let args':=qrp σ.locs σ.locs args
   match qcn args' with
   |true=>s.run env.o R args' [] fun r _ F=>match qaU σ.locs id 0 F,σ.clash dst with
    |true,false=>k (AS.put ⟨σ.slots,σ.gs,layF σ.locs id 0 F⟩ dst none (ren (· + id) r))
    |_,_=>none
   |false=>none
  |false =>
   let l:=idsL args []
   let σ':=σ.freezeL l
   let args':=args.map (AS.fzv l σ)
   match qcn args' with
   |true=>s.run env.o R args' [] fun r _ F=>match qaU σ'.locs id 0 F,σ'.clash dst with
    |true,false=>k (AS.put ⟨σ'.slots,σ'.gs,layF σ'.locs id 0 F⟩ dst none (ren (· + id) r))
    |_,_=>none
   |false=>none
def q5T (env:DEnv) (σ:AS)(g:Gd)(o:Oper)(id len:Nat)(parts:Array (Nat×Operand))(e:TypeId)(c:Nat)(k:AS→Option R):Option R :=
 match qbu env.P e c&&Nat.ble (len*szOf c) 16777216&&(match qbt env.P e with|some z=>Nat.beq z.length (szOf c)|none=>false) with
 |false=>none
 |true =>
  let ps:=parts.toList.map fun p=>(p.1,σ.ev g p.2)
  let l:=idsL (ps.map (·.2)) []
  let σ':=σ.freezeL l
  match qfu (fun i=>some (i*szOf c,szOf c)) ((List.range (len*szOf c)).map fun _=>.dead) (parts.toList.map fun p=>(p.1,AS.fzv l σ (σ.ev g p.2))) with
  |none=>none
  |some cs=>match qhA c (cs.length+1) cs with
   |some xs=>k ((σ'.new id (.row c xs)).put o.dst none (.row c id 0 len))
   |none=>none
def nilD (env:DEnv)(e:Bool)(k:Bool→Option R):Option R:=match e with
 |true=>env.o.same (k true) (k false)
 |false=>k false
def eopD (env:DEnv) (σ:AS)(g:Gd)(o:Oper)(id:Nat)(k:AS→Option R):Option R :=
 match o.op with
 |.alloc t=>match qbt env.P t with
  |some z=>match qdI env.to t z,qb8 σ.locs id,σ.clash o.dst with
   |some b,true,false=>k ((σ.new id b).put o.dst none (.ptr id 0))
   |_,_,_=>none
  |none=>none
 |.box t x=>match (match Nat.blt 0 (qat (σ.ev g x)).length with|true=>qdI env.to t (qat (σ.ev g x))|false=>none),qb8 σ.locs id,σ.clash o.dst with
  |some b,true,false=>k ((σ.new id b).put o.dst none (.ptr id 0))
  |_,_,_=>none
 |.store t a x=>match σ.clash o.dst with
  |true=>none
  |false =>
  let cs:=qat (σ.ev g x)
  match Nat.beq cs.length (qbM env.P t)&&Nat.blt 0 cs.length with
  |false=>none
  |true=>match σ.ev g a with
   |.ptr i off=>match lget σ.locs i with
    |some (.cells ds)=>match Nat.ble (off+cs.length) ds.length with
     |true=>k (AS.put ⟨σ.slots,σ.gs,lset σ.locs i (.cells (qfg ds off cs))⟩ o.dst none (.tup []))
     |false=>none
    |some (.row c xs)=>match Nat.beq off 0&&Nat.blt 0 (szOf c),qhA c (cs.length+1) cs with
     |true,some ys=>req1 env.o (ys.length=xs.length) (k (AS.put ⟨σ.slots,σ.gs,lset σ.locs i (.row c ys)⟩ o.dst none (.tup [])))
     |_,_=>none
    |none=>none
   |.eptr c i idx off =>
    let σ':=σ.freezeL (idsL cs [])
    let cs':=cs.map (AS.fzv (idsL cs []) σ)
    match lget σ'.locs i with
    |some (.row c' xs)=>match Nat.beq c c',dec c' (qfg (enc c' (xs.getD idx (dflt c'))) off cs') with
     |true,some y=>req1 env.o (idx<xs.length) (env.o.letv (xs.set idx y) fun zs=>k (AS.put ⟨σ'.slots,σ'.gs,lset σ'.locs i (.row c' zs)⟩ o.dst none (.tup [])))
     |_,_=>none
    |_=>none
   |_=>none
 |.buildSlice t len parts=>match qhO env.P t,σ.clash o.dst,qb8 σ.locs id with
  |some e,false,true=>q5T env σ g o id len parts e (env.code e) k
  |_,_,_=>none
 |.makeSlice t len cap=>match qhO env.P t,σ.clash o.dst,qb8 σ.locs id,σ.ev g len,σ.ev g cap with
  |some e,false,true,.int .i64 n,.int .i64 m =>
   match qbu env.P e (env.code e),qbt env.P e with
   |true,some z=>match dec (env.code e) z with
    |some x=>req1 env.o (0≤n∧n≤m∧m*env.P.bytesOf e≤140737488355328) (k ((σ.new id (.row (env.code e) (List.replicate n.toNat x))).put o.dst none (.row (env.code e) id 0 n.toNat)))
    |none=>none
   |_,_=>none
  |_,_,_,_,_=>none
 |.convert s d x=>match env.P.underlying s,env.P.underlying d,σ.ev g x,σ.clash o.dst with
  |some (.slice e),some (.slice e'),.row c i a n,false=>match Nat.beq s d,env.P.underlying e',env.P.underlying e with
   |true,some (.int .u8),some (.int .u8)=>match lget σ.locs i with
    |some (.row c' xs)=>match Nat.beq c c' with
     |true=>req1 env.o (0<n) (k ((σ.freeze i).put o.dst none (.sl c' ((xs.drop a).take n))))
     |false=>none
    |_=>none
   |_,_,_=>none
  |_,_,_,_=>none
 |.binOp op t x y _=>match op,env.P.underlying t,σ.ev g x,σ.ev g y,σ.clash o.dst with
  |.eql,some (.slice _),.sl _ xs,.nilsl,false=>nilD env xs.isEmpty fun b=>k (σ.put o.dst none (.bool b))
  |.neq,some (.slice _),.sl _ xs,.nilsl,false=>nilD env xs.isEmpty fun b=>k (σ.put o.dst none (.bool !b))
  |.eql,some (.slice _),.row _ _ _ n,.nilsl,false=>nilD env (Nat.beq n 0) fun b=>k (σ.put o.dst none (.bool b))
  |.neq,some (.slice _),.row _ _ _ n,.nilsl,false=>nilD env (Nat.beq n 0) fun b=>k (σ.put o.dst none (.bool !b))
  |_,_,_,_,_=>none
 |.call c=>match c.callee,σ.clash o.dst with
  |.builtin .append,false=>q0k env σ g o.dst c id k
  |.builtin .copy,false=>copyD env σ g o.dst c k
  |.value f,false=>match σ.ev g f with
   |.fn (.func n) first captured=>callD env σ o.dst n (first++c.args.toList.map (σ.ev g)++captured) id k
   |_=>none
  |_,_=>none
 |_=>none
def qwD (σ:AS):Nat→Nat→Bool→List Bool
 |0,_,_=>[]
 |n+1,tc,w=>match gget σ.gs tc with
  |none=>match nth σ.slots tc with
   |.bool b=>[beqB w b]
   |_=>[]
  |some (tc',w')=>match nth σ.slots tc with
   |.bool b=>beqB w b::qwD σ n tc' w'
   |_=>qwD σ n tc' w'
def allD:List DP→Bool
 | []=>true
 |⟨p,d⟩::r=>match r with
  | []=>@decide p d
  |_=>@decide p d&&allD r
def impB:List Bool→Bool→Bool
 | [],b=>b
 |g::r,b=>!g||impB r b
def underD (o:DOps)(g:List Bool):List DP→Option R→Option R
 | [],q=>q
 |p::r,q=>req (impB g (allD (p::r))) q
def quy (o:DOps) (σ:AS):Nat→Nat→(AS→Option R)→Option R
 |0,_,_=>none
 |n+1,tc,k=>match gget σ.gs tc with
  |none=>match nth σ.slots tc with
   |.bool b=>cond b (k {σ with slots:=qav σ.slots tc (.bool true)}) (k {σ with slots:=qav σ.slots tc (.bool false)})
   |.tup []=>k σ
   |_=>none
  |some (tc',_)=>quy o σ n tc' fun σ'=>match gget σ'.gs tc with
   |none=>none
   |some (tc2,w')=>match Nat.beq tc2 tc' with
    |false=>none
    |true=>match nth σ'.slots tc' with
     |.bool b=>match beqB b w' with
      |true=>match nth σ'.slots tc with
       |.bool b=>cond b (k {σ' with slots:=qav σ'.slots tc (.bool true),gs:=gdel σ'.gs tc}) (k {σ' with slots:=qav σ'.slots tc (.bool false),gs:=gdel σ'.gs tc})
       |.tup []=>k {σ' with gs:=gdel σ'.gs tc}
       |_=>none
      |false=>k {σ' with slots:=qav σ'.slots tc (.tup []),gs:=gdel σ'.gs tc}
     |.tup []=>k {σ' with slots:=qav σ'.slots tc (.tup []),gs:=gdel σ'.gs tc}
     |_=>none
def runD (env:DEnv) (σ:AS)(g:Gd)(o:Oper)(id:Nat)(K:AS→Option R):Option R :=
 match pop env.P σ g o with
 |.ok pre v=>q5P env.o pre (match σ.clash o.dst with
  |true=>none
  |false=>bindD env (match memN (id % 1000000) env.lits with|true=>3|false=>nameD σ g o.op) v fun v=>K (σ.put o.dst none v))
 |.bad=>eopD env σ g o id K
def skipD (σ:AS)(o:Oper)(K:AS→Option R):Option R:=match σ.clash o.dst with
 |true=>none
 |false=>K (σ.put o.dst none (.tup []))
def oneD (env:DEnv)(all:List Oper)(o:Oper)(id:Nat) (σ:AS)(K:AS→Option R):Option R :=
 match o.guard with
 |none=>runD env σ none o id K
 |some (j,w)=>match (all[j]?).bind (·.dst) with
  |none=>none
  |some tc=>match pop env.P σ (some (tc,w)) o with
    |.ok pre v=>underD env.o (qwD σ 20 tc w) pre (match σ.clash o.dst,(match o.dst with|some d=>Nat.beq d tc|none=>false) with
     |false,false=>bindD env (nameD σ (some (tc,w)) o.op) v fun v=>K (σ.put o.dst (some (tc,w)) v)
     |_,_=>none)
    |.bad=>quy env.o σ 20 tc fun σ'=>match nth σ'.slots tc with
     |.bool b=>match beqB b w with
      |true=>runD env σ' (some (tc,w)) o id K
      |false=>skipD σ' o K
     |_=>skipD σ' o K
def opsD (env:DEnv)(all:List Oper):List Oper→Nat→AS→(AS→Option R)→Option R
 | [],_,σ,k=>k σ.drop
 |o::rest,id,σ,k=>oneD env all o id σ fun σ'=>opsD env all rest (id+1) σ' k
def q5U (n:Nat)(k:Nat→Option R):Option R:=Nat.rec (motive:=fun _=>Option R) (k 0) (fun m _=>k (Nat.succ m)) n
def allO (o:DOps)(ops:List Oper)(f:Nat→Oper→Option R):List Nat→Option R
 | []=>none
 |i::r=>match r with
  | []=>(match ops[i]? with|some o=>f i o|none=>none)
  |_=>o.same (match ops[i]? with|some o=>f i o|none=>none) (allO o ops f r)
def anyD (env:DEnv)(ops:Array Oper)(id:Nat):Nat→Nat→AS→(AS→Option R)→Option R
 |0,m,σ,k=>match qiF ops.toList.length m ops.toList 0 with
  | []=>k σ.drop
  |_=>none
 |n+1,m,σ,k=>match qiF ops.toList.length m ops.toList 0 with
  | []=>k σ.drop
  |rs=>match q6y env.to σ ops m rs with
   |some (i,o)=>oneD env ops.toList o (id+i) σ fun σ'=>q5U (m ||| 2 ^ i) fun m=>anyD env ops id n m σ' k
   |none=>allO env.o ops.toList (fun i o=>oneD env ops.toList o (id+i) σ fun σ'=>q5U (m ||| 2 ^ i) fun m=>anyD env ops id n m σ' k) rs
end
def den {R:Type}:DEnv→Code→AS→(Ex→AS→Option R)→Option R
 |_,.skip,σ,Q=>Q .norm σ
 |env,.region id ops draw,σ,Q=>match draw with
  |false=>opsD env ops.toList ops.toList (env.off+(id+1)*1000) σ (Q .norm)
  |true=>match q4C ops.toList&&env.P.follows .mixedOrders with
   |true=>match env.rcuts (env.off+id) with
    |none=>anyD env ops (env.off+(id+1)*1000) ops.toList.length 0 σ (Q .norm)
    |some p=>env.o.join (fun J=>anyD env ops (env.off+(id+1)*1000) ops.toList.length 0 σ fun σ'=>p.get env.o σ' J) fun v:p.V=>Q .norm (p.st v)
   |false=>none
 |env,.seq a b,σ,Q=>match (qaM b).bind fun r=>env.cuts (env.off+r) with
  |none=>den env a σ fun e σ'=>match e with
   |.norm=>den env b σ' Q
   |e=>Q e σ'
  |some p=>env.o.join (fun J=>den env a σ fun e σ'=>match e with
   |.norm=>p.get env.o σ' J
   |e=>Q e σ') fun v:p.V=>den env b (p.st v) Q
 |env,.cond c x y,σ,Q=>match σ.ev none c with
  |.bool b=>cond b (den env x σ Q) (den env y σ Q)
  |_=>none
 |env,.block id c,σ,Q=>den env c σ fun e σ'=>match e with
  |.exit i=>match Nat.beq i id with
   |true=>Q .norm σ'
   |false=>Q (.exit i) σ'
  |e=>Q e σ'
 |env,.loop c,σ,Q=>match (qaM c).bind fun r=>env.loops (env.off+r) with
  |none=>Nat.rec (motive:=fun _=>AS→Option R) (fun _=>none) (fun n ih σ=>den (env.rnd n) c σ fun e σ'=>match e with
   |.norm=>ih σ'
   |e=>Q e σ') 4 σ
  |some p=>p.get env.o σ fun v0=>env.o.fix v0 fun rec v=>den env c (p.st v) fun e σ'=>match e with
   |.norm=>p.get env.o σ' rec
   |e=>Q e σ'
 |env,.scope c,σ,Q=>den env c σ Q
 |_,.label _,σ,Q=>Q .norm σ
 |_,.exit id,σ,Q=>Q (.exit id) σ
 |_,.ret,σ,Q=>Q .ret σ
 |_,_,_,_=>none
end
end Go.Eng
