import Derived.Test.YtcdppfnjidlknaaGreatDoorUak
namespace Go.Eng
open Go
set_option linter.unusedVariables false
set_option linter.unusedSimpArgs false
def qt2 {α β:Type} (o:Option α) (k:α→Option β):Option β:=match o with
 | some x=>k x
 | none=>none
def req {α:Type} (b:Bool) (q:Option α):Option α:=match b with
 | true=>q
 | false=>none
def letv {α β:Type} (e:α) (k:α→Option β):Option β:=k e
def fixN {V α:Type} (F:(V→Option α)→V→Option α):Nat→V→Option α
 | 0,_=>none
 | n+1,v=>F (fixN F n) v
def NN:Nat:=1208925819614629174706176
def fixO {V α:Type} (v:V) (F:(V→Option α)→V→Option α):Option α:=fixN F NN v
open Classical in
noncomputable def q32 {α:Type} (a b:Option α):Option α:=if a=b then a else none
open Classical in
noncomputable def anyO {α β:Type} (f:α→Option β):Option β:=if h:∃ r,∀ x,f x=some r then some h.choose else none
theorem q4I {α β:Type} {f:α→Option β} {r:β} (h:anyO f=some r) (x:α):f x=some r:=by
 unfold anyO at h
 split at h
 ·
  rename_i hh
  rw[← h]; exact hh.choose_spec x
 ·
  cases h
theorem anyO_of {α β:Type} {f:α→Option β} {r:β} (x0:α) (h:∀ x,f x=some r):anyO f=some r:=by
 unfold anyO
 have hh:∃ r,∀ x,f x=some r:=⟨r,h⟩
 rw[dif_pos hh,← hh.choose_spec x0,h x0]
theorem q33 {α:Type} (a:Option α):q32 a a=a:=if_pos rfl
structure DOps where
 letv:{α β:Type}→α→(α→Option β)→Option β
 same:{α:Type}→Option α→Option α→Option α
 fix:{V α:Type}→V→((V→Option α)→V→Option α)→Option α
 bind:{α β:Type}→Option α→(α→Option β)→Option β
 join:{α β:Type}→((α→Option β)→Option β)→(α→Option β)→Option β
 any:{α β:Type}→(α→Option β)→Option β
noncomputable def DOps.std:DOps:=⟨Eng.letv,q32,fixO,qt2,fun k J=>k J,anyO⟩
noncomputable def DOps.ev:DOps:=⟨Eng.letv,fun a _=>a,fixO,qt2,fun k J=>k J,anyO⟩
abbrev qal:List UInt8:=[]
abbrev qeT:List Int:=[]
abbrev nilL2:List UInt32:=[]
abbrev nilL3:List UInt64:=[]
abbrev qgY:List (List UInt8):=[]
abbrev nilL7:List (List Int):=[]
abbrev qvF:List Msg:=[]
abbrev qnp:List Put:=[]
abbrev qaH:List Plan:=[]
abbrev nilL17:List Grp:=[]
abbrev nilL18:List Phs:=[]
abbrev nilL19:List EyeT:=[]
abbrev qeV:List SeenT:=[]
abbrev nilL21:List Pls:=[]
abbrev nilL22:List Gpd:=[]
abbrev nilL23:List Lkd:=[]
abbrev nilL24:List Inp:=[]
abbrev KO (R:Type):=AV→List (Option Blk)→List Blk→Option R
structure DSpec where
 ro:Bool
 own:List Bool:=[]
 lend:Nat→Bool:=fun _=>true
 run:DOps→(R:Type)→List AV→List Blk→KO R→Option R
noncomputable def DSpec.to (s:DSpec):Spec:=⟨s.ro,s.own,s.lend,fun args B k=>∃ (R:Type) (K:KO R) (r:R),s.run DOps.std R args B K=some r∧∀ x bs F,K x bs F=some r→k x bs F⟩
inductive PA where
 | nil
 | dead (r:PA) | nilsl (r:PA) | nilptr (r:PA) | nilfn (r:PA)
 | int (k:IntKind) (r:PA) | bool (r:PA) | str (r:PA)
 | lit (k:IntKind) (n:Int) (r:PA)
 | sl (c:Nat) (r:PA) | seg (c:Nat) (r:PA)
 | row (c i:Nat) (r:PA)
 | rown (c i:Nat) (r:PA)
 | ptr (i o:Nat) (r:PA)
 | eptr (c i o:Nat) (r:PA)
 | iref (c o:Nat) (r:PA)
 | agg (l r:PA)
 | tup (l r:PA)
 | fn (f:FuncId) (a b r:PA)
inductive PB where
 | cells (l:PA)
 | row (c:Nat)
structure Pat where
 slots:PA
 blks:List (Nat×PB):=[]
 boxes:List (Nat×Nat×Nat):=[]
 fz:Bool:=false
def PA.dd:Nat→PA→PA
 | 0,r=>r
 | n+1,r=>.dead (PA.dd n r)
def qnq:Locs→List Nat
 | []=>[]
 | (i,.row _ _)::r=>match Nat.ble 900 i with
  | true=>i::qnq r
  | false=>qnq r
 | _::r=>qnq r
@[reducible] def PA.V:PA→Type
 | .nil=>Unit
 | .int _ r=>Int×PA.V r
 | .bool r=>Bool×PA.V r
 | .str r=>ByteArray×PA.V r
 | .sl c r=>List (ty c)×PA.V r
 | .seg c r=>ty c×PA.V r
 | .eptr _ _ _ r | .rown _ _ r=>Nat×PA.V r
 | .iref c _ r=>ty c×PA.V r
 | .agg l r | .tup l r=>PA.V l×PA.V r
 | .fn _ a b r=>(PA.V a×PA.V b)×PA.V r
 | .dead r | .nilsl r | .nilptr r | .nilfn r | .row _ _ r | .ptr _ _ r | .lit _ _ r=>PA.V r
def PA.put (len:Nat→Nat):(l:PA)→PA.V l→List AV
 | .nil,_=>[]
 | .int k r,v=>.int k v.1::PA.put len r v.2
 | .lit k n r,v=>.int k n::PA.put len r v
 | .bool r,v=>.bool v.1::PA.put len r v.2
 | .str r,v=>.str v.1::PA.put len r v.2
 | .sl c r,v=>.sl c v.1::PA.put len r v.2
 | .seg c r,v=>enc c v.1++PA.put len r v.2
 | .eptr c i o r,v=>.eptr c i v.1 o::PA.put len r v.2
 | .iref c o r,v=>.iref c v.1 o::PA.put len r v.2
 | .agg l r,v=>.agg (PA.put len l v.1)::PA.put len r v.2
 | .tup l r,v=>.tup (PA.put len l v.1)::PA.put len r v.2
 | .fn f a b r,v=>.fn (.func f) (PA.put len a v.1.1) (PA.put len b v.1.2)::PA.put len r v.2
 | .dead r,v=>.dead::PA.put len r v
 | .nilsl r,v=>.nilsl::PA.put len r v
 | .nilptr r,v=>.nilptr::PA.put len r v
 | .nilfn r,v=>.nilfn::PA.put len r v
 | .row c i r,v=>.row c i 0 (len i)::PA.put len r v
 | .rown c i r,v=>.row c i 0 v.1::PA.put len r v.2
 | .ptr i o r,v=>.ptr i o::PA.put len r v
def sameN (a b:Nat):Bool:=Nat.beq a b
def eqInt (a b:Int):Bool:=@decide (a=b) (Int.instDecidableEq a b)
def PA.get {R:Type} (o:DOps) (len:Nat→Nat):(l:PA)→List AV→(PA.V l→Option R)→Option R
 | .nil,s,k=>match s with
  | []=>k ()
  | _=>none
 | .int κ r,s,k=>match s with
  | .int κ' x::s=>match qbQ κ' κ with
   | true=>PA.get o len r s fun v=>k (x,v)
   | false=>none
  | _=>none
 | .lit κ n r,s,k=>match s with
  | .int κ' x::s=>match qbQ κ' κ&&eqInt x n with
   | true=>PA.get o len r s k
   | false=>none
  | _=>none
 | .bool r,s,k=>match s with
  | .bool b::s=>PA.get o len r s fun v=>k (b,v)
  | _=>none
 | .str r,s,k=>match s with
  | .str b::s=>PA.get o len r s fun v=>k (b,v)
  | _=>none
 | .sl c r,s,k=>match s with
  | .sl c' xs::s=>match decEq c' c with
   | isTrue h=>PA.get o len r s fun v=>k (h ▸ xs,v)
   | isFalse _=>none
  | .nilsl::s=>PA.get o len r s fun v=>k ([],v)
  | _=>none
 | .seg c r,s,k=>match dec c (qq1 s (szOf c)) with
  | some x=>PA.get o len r (qq2 s (szOf c)) fun v=>k (x,v)
  | none=>none
 | .eptr c i q r,s,k=>match s with
  | .eptr c' i' x q'::s=>match Nat.beq c' c&&Nat.beq i' i&&Nat.beq q' q with
   | true=>PA.get o len r s fun v=>k (x,v)
   | false=>none
  | _=>none
 | .iref c q r,s,k=>match s with
  | .iref c' x q'::s=>match Nat.beq q' q,decEq c' c with
   | true,isTrue h=>PA.get o len r s fun v=>k (h ▸ x,v)
   | _,_=>none
  | _=>none
 | .agg l r,s,k=>match s with
  | .agg m::s=>PA.get o len l m fun u=>PA.get o len r s fun v=>k (u,v)
  | _=>none
 | .tup l r,s,k=>match s with
  | .tup m::s=>PA.get o len l m fun u=>PA.get o len r s fun v=>k (u,v)
  | _=>none
 | .fn f a b r,s,k=>match s with
  | .fn (.func f') a' b'::s=>match Nat.beq f' f with
   | true=>PA.get o len a a' fun u1=>PA.get o len b b' fun u2=>PA.get o len r s fun v=>k ((u1,u2),v)
   | false=>none
  | _=>none
 | .dead r,s,k=>match s with
  | _::s=>PA.get o len r s k
  | _=>none
 | .nilsl r,s,k=>match s with
  | .nilsl::s=>PA.get o len r s k
  | _=>none
 | .nilptr r,s,k=>match s with
  | .nilptr::s=>PA.get o len r s k
  | _=>none
 | .nilfn r,s,k=>match s with
  | .nilfn::s=>PA.get o len r s k
  | _=>none
 | .row c i r,s,k=>match s with
  | .row c' i' q n::s=>match Nat.beq c' c&&Nat.beq i' i&&Nat.beq q 0 with
   | true=>req (sameN n (len i)) (PA.get o len r s k)
   | false=>none
  | _=>none
 | .rown c i r,s,k=>match s with
  | .row c' i' q n::s=>match Nat.beq c' c&&Nat.beq i' i&&Nat.beq q 0 with
   | true=>PA.get o len r s fun v=>k (n,v)
   | false=>none
  | _=>none
 | .ptr i q r,s,k=>match s with
  | .ptr i' q'::s=>match Nat.beq i' i&&Nat.beq q' q with
   | true=>PA.get o len r s k
   | false=>none
  | _=>none
@[reducible] def VR:List (Nat×PB)→Type
 | []=>Unit
 | (_,.row c)::r=>List (ty c)×VR r
 | (_,.cells _)::r=>VR r
@[reducible] def VC:List (Nat×PB)→Type
 | []=>Unit
 | (_,.row _)::r=>VC r
 | (_,.cells l)::r=>PA.V l×VC r
def lenR:(bl:List (Nat×PB))→VR bl→Nat→Nat
 | [],_,_=>0
 | (i,.row c)::r,v,j=>match Nat.beq i j with
  | true=>v.1.length
  | false=>lenR r v.2 j
 | (_,.cells _)::r,v,j=>lenR r v j
def qgZ (len:Nat→Nat):(bl:List (Nat×PB))→VR bl→VC bl→Locs
 | [],_,_=>[]
 | (i,.row c)::r,v,u=>(i,.row c v.1)::qgZ len r v.2 u
 | (i,.cells l)::r,v,u=>(i,.cells (PA.put len l u.1))::qgZ len r v u.2
def getR {R:Type} (L:Locs):(bl:List (Nat×PB))→(VR bl→Option R)→Option R
 | [],k=>k ()
 | (i,.row c)::r,k=>match lget L i with
  | some (.row c' xs)=>match decEq c' c with
   | isTrue h=>getR L r fun v=>k (h ▸ xs,v)
   | isFalse _=>none
  | _=>none
 | (_,.cells _)::r,k=>getR L r k
def getC {R:Type} (o:DOps) (L:Locs) (len:Nat→Nat):(bl:List (Nat×PB))→(VC bl→Option R)→Option R
 | [],k=>k ()
 | (_,.row _)::r,k=>getC o L len r k
 | (i,.cells l)::r,k=>match lget L i with
  | some (.cells cs)=>PA.get o len l cs fun u=>getC o L len r fun v=>k (u,v)
  | _=>none
abbrev Pat.V (p:Pat):Type:=VR p.blks×VC p.blks×PA.V p.slots
def Pat.st (p:Pat) (v:p.V):AS:=⟨PA.put (lenR p.blks v.1) p.slots v.2.2,[],qgZ (lenR p.blks v.1) p.blks v.1 v.2.1⟩
def PA.ids:PA→List Nat→Bool
 | .nil,_=>true
 | .row _ i r,ks | .rown _ i r,ks | .ptr i _ r,ks | .eptr _ i _ r,ks=>memN i ks&&PA.ids r ks
 | .agg l r,ks | .tup l r,ks=>PA.ids l ks&&PA.ids r ks
 | .fn _ a b r,ks=>PA.ids a ks&&PA.ids b ks&&PA.ids r ks
 | .dead r,ks | .nilsl r,ks | .nilptr r,ks | .nilfn r,ks | .lit _ _ r,ks | .int _ r,ks | .bool r,ks | .str r,ks | .sl _ r,ks | .seg _ r,ks | .iref _ _ r,ks=>PA.ids r ks
def PB.ids:List (Nat×PB)→List Nat→Bool
 | [],_=>true
 | (_,.row _)::r,ks=>PB.ids r ks
 | (_,.cells l)::r,ks=>PA.ids l ks&&PB.ids r ks
def qqz:List (Nat×PB)→List Nat
 | []=>[]
 | (i,_)::r=>i::qqz r
def Pat.ok (p:Pat):Bool:=qc1 (qqz p.blks)&&PA.ids p.slots (qqz p.blks)&&PB.ids p.blks (qqz p.blks)
def Pat.get {R:Type} (o:DOps) (p:Pat) (σ0:AS) (k:p.V→Option R):Option R :=
 let σ1:=σ0.box p.boxes
 let σ:=match p.fz with
  | true=>σ1.freezeL (qnq σ1.locs)
  | false=>σ1
 match noGs σ.gs&&p.ok with
 | true=>getR σ.locs p.blks fun vr=>getC o σ.locs (lenR p.blks vr) p.blks fun vc=>PA.get o (lenR p.blks vr) p.slots σ.slots fun vs=>k (vr,vc,vs)
 | false=>none
noncomputable section
structure DEnv where
 o:DOps
 P:Program
 code:TypeId→Nat
 spec:FuncId→Option DSpec
 loops:Nat→Option Pat
 cuts:Nat→Option Pat
 rcuts:Nat→Option Pat
 lits:List Nat:=[]
 off:Nat:=0
def DEnv.rnd (e:DEnv) (n:Nat):DEnv:=⟨e.o,e.P,e.code,e.spec,e.loops,e.cuts,e.rcuts,e.lits,(e.off+n+1)*1000000⟩
def DEnv.to (e:DEnv):Env:=⟨e.P,e.code,fun f=>(e.spec f).map DSpec.to,fun _ _=>none,fun _ _=>none,[],false,0,0,fun _=>0,(0,none)⟩
section
variable {R : Type}
def q4J (o:DOps):List DP→Option R→Option R
 | [],q=>q
 | ⟨p,d⟩::r,q=>req (@decide p d) (q4J o r q)
abbrev req1 (o:DOps) (p:Prop) [d:Decidable p] (q:Option R):Option R:=req (decide p) q
def nameD (σ:AS) (g:Gd):Op→Nat
 | .binOp .. | .unOp .. | .convert .. | .index ..=>1
 | .indexAddr ..=>2
 | .load _ a=>match σ.ev g a with
  | .eptr ..=>1
  | _=>0
 | .call c=>match c.callee with
  | .builtin .min | .builtin .max=>1
  | _=>0
 | _=>0
def q4K (n:Int) (k:Int→Option R):Option R:=match n with
 | .ofNat n=>Nat.rec (motive:=fun _=>Option R) (k (.ofNat 0)) (fun m _=>k (.ofNat (Nat.succ m))) n
 | .negSucc n=>k (.negSucc n)
def bindD (env:DEnv) (m:Nat) (v:AV) (k:AV→Option R):Option R:=match m with
 | 0=>k v
 | 3=>match v with
  | .int κ e=>q4K e fun x=>k (.int κ x)
  | v=>k v
 | 1=>match v with
  | .int κ e=>env.o.letv e fun x=>k (.int κ x)
  | v=>k v
 | _=>match v with
  | .iref c e o=>env.o.letv e fun x=>k (.iref c x o)
  | v=>k v
def qmy (env:DEnv) (σ:AS) (dst:Option Tmp) (e:TypeId) (id m:Nat) (ys:List (ty (env.code e))) (x1:AV) (k:AS→Option R):Option R:=match x1 with
 | .nilsl=>match qbx σ.locs id with
  | true=>req1 env.o (m*env.P.bytesOf e≤140737488355328) (env.o.letv ys fun zs=>k ((σ.new id (.row (env.code e) zs)).put dst none (.row (env.code e) id 0 m)))
  | false=>none
 | .row c1 i 0 n=>match lget σ.locs i with
  | some (.row c' xs)=>match Nat.beq c1 c'&&Nat.ble 900 i,decEq c' (env.code e) with
   | true,isTrue h=>req1 env.o ((n+m)*env.P.bytesOf e≤140737488355328)
     (env.o.letv ((h ▸ xs:List (ty (env.code e))).take n++ys) fun zs=>k (AS.put {(σ.kill i) with locs:=lset (σ.kill i).locs i (.row (env.code e) zs)} dst none (.row (env.code e) i 0 (n+m))))
   | _,_=>none
  | _=>none
 | _=>none
def qzi (env:DEnv) (σ:AS) (g:Gd) (dst:Option Tmp) (c:Call) (id:Nat) (k:AS→Option R):Option R :=
 match c.args.toList,c.argTypes.toList with
 | [x1,x2],[t,t']=>match qhr env.P t with
  | some e =>
   match qbl env.P e (env.code e)&&Nat.blt 0 (env.P.bytesOf e)&&(match qbk env.P e with | some z=>Nat.beq z.length (szOf (env.code e)) | none=>false) with
   | false=>none
   | true=>match Nat.beq t t' with
    | true=>match qzt σ.locs (env.code e) (σ.ev g x2) with
     | none=>none
     | some (m,ys)=>qmy env σ dst e id m ys (σ.ev g x1) k
    | false=>match env.P.underlying t',σ.ev g x2,(match qbk env.P e with | some z=>dec (env.code e) z | none=>none) with
     | some (.int _),.int .i64 n,some x=>req1 env.o (0≤n) (qmy env σ dst e id n.toNat (List.replicate n.toNat x) (σ.ev g x1) k)
     | _,_,_=>none
  | none=>none
 | _,_=>none
def copyD (env:DEnv) (σ:AS) (g:Gd) (dst:Option Tmp) (c:Call) (k:AS→Option R):Option R :=
 match c.args.toList,c.argTypes.toList with
 | [x1,x2],[t,t']=>match qhr env.P t with
  | some e=>match σ.ev g x1 with
   | .row c1 i o n=>match oneT env.P e&&Nat.beq (szOf c1) 1,qzt σ.locs c1 (σ.ev g x2),lget σ.locs i with
    | true,some (m,ys),some (.row c2 xs)=>match decEq c2 c1 with
     | isTrue h=>env.o.letv ((h ▸ xs:List (ty c1)).take o++ys.take (Nat.min m n)++(h ▸ xs:List (ty c1)).drop (o+Nat.min m n)) fun zs =>
       k (AS.put ⟨σ.slots,σ.gs,lset σ.locs i (.row c1 zs)⟩ dst none (.int .i64 (Nat.min m n:Nat)))
     | isFalse _=>none
    | _,_,_=>none
   | _=>none
  | none=>none
 | _,_=>none
def q4L (env:DEnv) (σ:AS) (dst:Option Tmp) (l:List Nat) (id:Nat) (k:AS→Option R) (r:AV) (bs:List (Option Blk)) (F:List Blk):Option R :=
 let h:=hnum l l.length id
 let σ1:=σ.killD (qeZ l bs)
 match qaM σ1.locs id 0 F,σ1.clash dst with
 | true,false=>k (AS.put ⟨σ1.slots,σ1.gs,layG (setB h σ1.locs l bs) h id 0 F⟩ dst none (ren h r))
 | _,_=>none
def q4M (env:DEnv) (σ:AS) (dst:Option Tmp) (s:DSpec) (args:List AV) (id:Nat) (k:AS→Option R):Option R :=
 let rd:=qtG s.lend 0 args []
 let σ':=σ.freezeL rd
 let args':=args.map (AS.fzv rd σ)
 let l:=qeY σ'.locs 1000 (idsL args' []) []
 let f:=fun i=>nm s.own (idx l i 0)
 match qtF σ'.locs l f l,qc1 l&&qbB l args'&&Nat.ble l.length 100 with
 | some B,true=>s.run env.o R (renL f args') B (q4L env σ' dst l id k)
 | _,_=>none
def callD (env:DEnv) (σ:AS) (dst:Option Tmp) (f:FuncId) (args0:List AV) (id:Nat) (k:AS→Option R):Option R :=
 let args:=args0.map qzs
 match env.spec f with
 | none=>none
 | some s=>match s.own with
  | _::_=>q4M env σ dst s args id k
  | []=>match s.ro with
  | true =>
   let args':=qq3 σ.locs σ.locs args
   match qbZ args' with
   | true=>s.run env.o R args' [] fun r _ F=>match qaM σ.locs id 0 F,σ.clash dst with
    | true,false=>k (AS.put ⟨σ.slots,σ.gs,layF σ.locs id 0 F⟩ dst none (ren (· + id) r))
    | _,_=>none
   | false=>none
  | false =>
   let l:=idsL args []
   let σ':=σ.freezeL l
   let args':=args.map (AS.fzv l σ)
   match qbZ args' with
   | true=>s.run env.o R args' [] fun r _ F=>match qaM σ'.locs id 0 F,σ'.clash dst with
    | true,false=>k (AS.put ⟨σ'.slots,σ'.gs,layF σ'.locs id 0 F⟩ dst none (ren (· + id) r))
    | _,_=>none
   | false=>none
def q4N (env:DEnv) (σ:AS) (g:Gd) (o:Oper) (id len:Nat) (parts:Array (Nat×Operand)) (e:TypeId) (c:Nat) (k:AS→Option R):Option R :=
 match qbl env.P e c&&Nat.ble (len*szOf c) 16777216&&(match qbk env.P e with | some z=>Nat.beq z.length (szOf c) | none=>false) with
 | false=>none
 | true =>
  let ps:=parts.toList.map fun p=>(p.1,σ.ev g p.2)
  let l:=idsL (ps.map (·.2)) []
  let σ':=σ.freezeL l
  match qeW (fun i=>some (i*szOf c,szOf c)) ((List.range (len*szOf c)).map fun _=>.dead) (parts.toList.map fun p=>(p.1,AS.fzv l σ (σ.ev g p.2))) with
  | none=>none
  | some cs=>match qhd c (cs.length+1) cs with
   | some xs=>k ((σ'.new id (.row c xs)).put o.dst none (.row c id 0 len))
   | none=>none
def nilD (env:DEnv) (e:Bool) (k:Bool→Option R):Option R:=match e with
 | true=>env.o.same (k true) (k false)
 | false=>k false
def eopD (env:DEnv) (σ:AS) (g:Gd) (o:Oper) (id:Nat) (k:AS→Option R):Option R :=
 match o.op with
 | .alloc t=>match qbk env.P t with
  | some z=>match qdx env.to t z,qbx σ.locs id,σ.clash o.dst with
   | some b,true,false=>k ((σ.new id b).put o.dst none (.ptr id 0))
   | _,_,_=>none
  | none=>none
 | .box t x=>match (match Nat.blt 0 (qaq (σ.ev g x)).length with | true=>qdx env.to t (qaq (σ.ev g x)) | false=>none),qbx σ.locs id,σ.clash o.dst with
  | some b,true,false=>k ((σ.new id b).put o.dst none (.ptr id 0))
  | _,_,_=>none
 | .store t a x=>match σ.clash o.dst with
  | true=>none
  | false =>
  let cs:=qaq (σ.ev g x)
  match Nat.beq cs.length (qbA env.P t)&&Nat.blt 0 cs.length with
  | false=>none
  | true=>match σ.ev g a with
   | .ptr i off=>match lget σ.locs i with
    | some (.cells ds)=>match Nat.ble (off+cs.length) ds.length with
     | true=>k (AS.put ⟨σ.slots,σ.gs,lset σ.locs i (.cells (qeI ds off cs))⟩ o.dst none (.tup []))
     | false=>none
    | some (.row c xs)=>match Nat.beq off 0&&Nat.blt 0 (szOf c),qhd c (cs.length+1) cs with
     | true,some ys=>req1 env.o (ys.length=xs.length) (k (AS.put ⟨σ.slots,σ.gs,lset σ.locs i (.row c ys)⟩ o.dst none (.tup [])))
     | _,_=>none
    | none=>none
   | .eptr c i idx off =>
    let σ':=σ.freezeL (idsL cs [])
    let cs':=cs.map (AS.fzv (idsL cs []) σ)
    match lget σ'.locs i with
    | some (.row c' xs)=>match Nat.beq c c',dec c' (qeI (enc c' (xs.getD idx (dflt c'))) off cs') with
     | true,some y=>req1 env.o (idx<xs.length) (env.o.letv (xs.set idx y) fun zs=>k (AS.put ⟨σ'.slots,σ'.gs,lset σ'.locs i (.row c' zs)⟩ o.dst none (.tup [])))
     | _,_=>none
    | _=>none
   | _=>none
 | .buildSlice t len parts=>match qhr env.P t,σ.clash o.dst,qbx σ.locs id with
  | some e,false,true=>q4N env σ g o id len parts e (env.code e) k
  | _,_,_=>none
 | .makeSlice t len cap=>match qhr env.P t,σ.clash o.dst,qbx σ.locs id,σ.ev g len,σ.ev g cap with
  | some e,false,true,.int .i64 n,.int .i64 m =>
   match qbl env.P e (env.code e),qbk env.P e with
   | true,some z=>match dec (env.code e) z with
    | some x=>req1 env.o (0≤n∧n≤m∧m*env.P.bytesOf e≤140737488355328) (k ((σ.new id (.row (env.code e) (List.replicate n.toNat x))).put o.dst none (.row (env.code e) id 0 n.toNat)))
    | none=>none
   | _,_=>none
  | _,_,_,_,_=>none
 | .convert s d x=>match env.P.underlying s,env.P.underlying d,σ.ev g x,σ.clash o.dst with
  | some (.slice e),some (.slice e'),.row c i a n,false=>match Nat.beq s d,env.P.underlying e',env.P.underlying e with
   | true,some (.int .u8),some (.int .u8)=>match lget σ.locs i with
    | some (.row c' xs)=>match Nat.beq c c' with
     | true=>req1 env.o (0<n) (k ((σ.freeze i).put o.dst none (.sl c' ((xs.drop a).take n))))
     | false=>none
    | _=>none
   | _,_,_=>none
  | _,_,_,_=>none
 | .binOp op t x y _=>match op,env.P.underlying t,σ.ev g x,σ.ev g y,σ.clash o.dst with
  | .eql,some (.slice _),.sl _ xs,.nilsl,false=>nilD env xs.isEmpty fun b=>k (σ.put o.dst none (.bool b))
  | .neq,some (.slice _),.sl _ xs,.nilsl,false=>nilD env xs.isEmpty fun b=>k (σ.put o.dst none (.bool !b))
  | .eql,some (.slice _),.row _ _ _ n,.nilsl,false=>nilD env (Nat.beq n 0) fun b=>k (σ.put o.dst none (.bool b))
  | .neq,some (.slice _),.row _ _ _ n,.nilsl,false=>nilD env (Nat.beq n 0) fun b=>k (σ.put o.dst none (.bool !b))
  | _,_,_,_,_=>none
 | .call c=>match c.callee,σ.clash o.dst with
  | .builtin .append,false=>qzi env σ g o.dst c id k
  | .builtin .copy,false=>copyD env σ g o.dst c k
  | .value f,false=>match σ.ev g f with
   | .fn (.func n) first captured=>callD env σ o.dst n (first++c.args.toList.map (σ.ev g)++captured) id k
   | _=>none
  | _,_=>none
 | _=>none
def qvG (σ:AS):Nat→Nat→Bool→List Bool
 | 0,_,_=>[]
 | n+1,tc,w=>match gget σ.gs tc with
  | none=>match nth σ.slots tc with
   | .bool b=>[beqB w b]
   | _=>[]
  | some (tc',w')=>match nth σ.slots tc with
   | .bool b=>beqB w b::qvG σ n tc' w'
   | _=>qvG σ n tc' w'
def allD:List DP→Bool
 | []=>true
 | ⟨p,d⟩::r=>match r with
  | []=>@decide p d
  | _=>@decide p d&&allD r
def impB:List Bool→Bool→Bool
 | [],b=>b
 | g::r,b=>!g||impB r b
def underD (o:DOps) (g:List Bool):List DP→Option R→Option R
 | [],q=>q
 | p::r,q=>req (impB g (allD (p::r))) q
def qt3 (o:DOps) (σ:AS):Nat→Nat→(AS→Option R)→Option R
 | 0,_,_=>none
 | n+1,tc,k=>match gget σ.gs tc with
  | none=>match nth σ.slots tc with
   | .bool b=>cond b (k {σ with slots:=qas σ.slots tc (.bool true)}) (k {σ with slots:=qas σ.slots tc (.bool false)})
   | .tup []=>k σ
   | _=>none
  | some (tc',_)=>qt3 o σ n tc' fun σ'=>match gget σ'.gs tc with
   | none=>none
   | some (tc2,w')=>match Nat.beq tc2 tc' with
    | false=>none
    | true=>match nth σ'.slots tc' with
     | .bool b=>match beqB b w' with
      | true=>match nth σ'.slots tc with
       | .bool b=>cond b (k {σ' with slots:=qas σ'.slots tc (.bool true),gs:=gdel σ'.gs tc}) (k {σ' with slots:=qas σ'.slots tc (.bool false),gs:=gdel σ'.gs tc})
       | .tup []=>k {σ' with gs:=gdel σ'.gs tc}
       | _=>none
      | false=>k {σ' with slots:=qas σ'.slots tc (.tup []),gs:=gdel σ'.gs tc}
     | .tup []=>k {σ' with slots:=qas σ'.slots tc (.tup []),gs:=gdel σ'.gs tc}
     | _=>none
def runD (env:DEnv) (σ:AS) (g:Gd) (o:Oper) (id:Nat) (K:AS→Option R):Option R :=
 match pop env.P σ g o with
 | .ok pre v=>q4J env.o pre (match σ.clash o.dst with
  | true=>none
  | false=>bindD env (match memN (id % 1000000) env.lits with | true=>3 | false=>nameD σ g o.op) v fun v=>K (σ.put o.dst none v))
 | .bad=>eopD env σ g o id K
def skipD (σ:AS) (o:Oper) (K:AS→Option R):Option R:=match σ.clash o.dst with
 | true=>none
 | false=>K (σ.put o.dst none (.tup []))
def oneD (env:DEnv) (all:List Oper) (o:Oper) (id:Nat) (σ:AS) (K:AS→Option R):Option R :=
 match o.guard with
 | none=>runD env σ none o id K
 | some (j,w)=>match (all[j]?).bind (·.dst) with
  | none=>none
  | some tc=>match pop env.P σ (some (tc,w)) o with
    | .ok pre v=>underD env.o (qvG σ 20 tc w) pre (match σ.clash o.dst,(match o.dst with | some d=>Nat.beq d tc | none=>false) with
     | false,false=>bindD env (nameD σ (some (tc,w)) o.op) v fun v=>K (σ.put o.dst (some (tc,w)) v)
     | _,_=>none)
    | .bad=>qt3 env.o σ 20 tc fun σ'=>match nth σ'.slots tc with
     | .bool b=>match beqB b w with
      | true=>runD env σ' (some (tc,w)) o id K
      | false=>skipD σ' o K
     | _=>skipD σ' o K
def opsD (env:DEnv) (all:List Oper):List Oper→Nat→AS→(AS→Option R)→Option R
 | [],_,σ,k=>k σ.drop
 | o::rest,id,σ,k=>oneD env all o id σ fun σ'=>opsD env all rest (id+1) σ' k
def q4O (n:Nat) (k:Nat→Option R):Option R:=Nat.rec (motive:=fun _=>Option R) (k 0) (fun m _=>k (Nat.succ m)) n
def allO (o:DOps) (ops:List Oper) (f:Nat→Oper→Option R):List Nat→Option R
 | []=>none
 | i::r=>match r with
  | []=>(match ops[i]? with | some o=>f i o | none=>none)
  | _=>o.same (match ops[i]? with | some o=>f i o | none=>none) (allO o ops f r)
def anyD (env:DEnv) (ops:Array Oper) (id:Nat):Nat→Nat→AS→(AS→Option R)→Option R
 | 0,m,σ,k=>match qih ops.toList.length m ops.toList 0 with
  | []=>k σ.drop
  | _=>none
 | n+1,m,σ,k=>match qih ops.toList.length m ops.toList 0 with
  | []=>k σ.drop
  | rs=>match q5s env.to σ ops m rs with
   | some (i,o)=>oneD env ops.toList o (id+i) σ fun σ'=>q4O (m ||| 2 ^ i) fun m=>anyD env ops id n m σ' k
   | none=>allO env.o ops.toList (fun i o=>oneD env ops.toList o (id+i) σ fun σ'=>q4O (m ||| 2 ^ i) fun m=>anyD env ops id n m σ' k) rs
end
def den {R:Type}:DEnv→Code→AS→(Ex→AS→Option R)→Option R
 | _,.skip,σ,Q=>Q .norm σ
 | env,.region id ops draw,σ,Q=>match draw with
  | false=>opsD env ops.toList ops.toList (env.off+(id+1)*1000) σ (Q .norm)
  | true=>match q39 ops.toList&&env.P.follows .mixedOrders with
   | true=>match env.rcuts (env.off+id) with
    | none=>anyD env ops (env.off+(id+1)*1000) ops.toList.length 0 σ (Q .norm)
    | some p=>env.o.join (fun J=>anyD env ops (env.off+(id+1)*1000) ops.toList.length 0 σ fun σ'=>p.get env.o σ' J) fun v:p.V=>Q .norm (p.st v)
   | false=>none
 | env,.seq a b,σ,Q=>match (qaE b).bind fun r=>env.cuts (env.off+r) with
  | none=>den env a σ fun e σ'=>match e with
   | .norm=>den env b σ' Q
   | e=>Q e σ'
  | some p=>env.o.join (fun J=>den env a σ fun e σ'=>match e with
   | .norm=>p.get env.o σ' J
   | e=>Q e σ') fun v:p.V=>den env b (p.st v) Q
 | env,.cond c x y,σ,Q=>match σ.ev none c with
  | .bool b=>cond b (den env x σ Q) (den env y σ Q)
  | _=>none
 | env,.block id c,σ,Q=>den env c σ fun e σ'=>match e with
  | .exit i=>match Nat.beq i id with
   | true=>Q .norm σ'
   | false=>Q (.exit i) σ'
  | e=>Q e σ'
 | env,.loop c,σ,Q=>match (qaE c).bind fun r=>env.loops (env.off+r) with
  | none=>Nat.rec (motive:=fun _=>AS→Option R) (fun _=>none) (fun n ih σ=>den (env.rnd n) c σ fun e σ'=>match e with
   | .norm=>ih σ'
   | e=>Q e σ') 4 σ
  | some p=>p.get env.o σ fun v0=>env.o.fix v0 fun rec v=>den env c (p.st v) fun e σ'=>match e with
   | .norm=>p.get env.o σ' rec
   | e=>Q e σ'
 | env,.scope c,σ,Q=>den env c σ Q
 | _,.label _,σ,Q=>Q .norm σ
 | _,.exit id,σ,Q=>Q (.exit id) σ
 | _,.ret,σ,Q=>Q .ret σ
 | _,_,_,_=>none
end
end Go.Eng
namespace Go.Eng
open Go
set_option linter.unusedVariables false
set_option linter.unusedSimpArgs false
section
variable {R : Type} {env : DEnv} {r : R} {σ : AS} {id : Nat} {dst : Option Tmp} {g : Gd} {k : AS → Option R} {k' : AS → Prop}
theorem req_ok {b:Bool} {q:Option R} (h:req b q=some r):b=true∧q=some r:=by
 cases b with
 | true=>exact⟨rfl,h⟩
 | false=>cases h
theorem qho {o:DOps} (hs:o=DOps.std) {p:Prop} [Decidable p] {q:Option R} (h:req1 o p q=some r):p∧q=some r:=by
 subst hs
 exact⟨of_decide_eq_true (req_ok h).1,(req_ok h).2⟩
theorem qvH {p':Prop}:∀ {l:List DP} {q:Option R},(q=some r→p')→q4J DOps.std l q=some r→andD l p'
 | [],_,hq,h=>hq h
 | ⟨p,d⟩::l,q,hq,h=>⟨of_decide_eq_true (req_ok h).1,qvH hq (req_ok h).2⟩
theorem q4P {b:Bool} {v:AV} {k':AV→Prop} (h:k' v):qlw b v k'∧q37 b v k':=by
 unfold qlw q37
 constructor
 ·
  split
  ·
   exact fun x e _=>by subst e; exact h
  ·
   exact h
 ·
  split
  ·
   exact fun x e=>by subst e; exact h
  ·
   exact h
theorem q1C (hs:env.o=DOps.std) {b:Bool} {m:Nat} {v:AV} {k:AV→Option R} {k':AV→Prop} (hk:∀ v,k v=some r→k' v) (h:bindD env m v k=some r):qlw b v k'∧q37 b v k':=by
 refine q4P (hk _ ?_)
 unfold bindD at h
 rw[hs] at h
 split at h
 ·
  exact h
 ·
  split at h
  ·
   unfold q4K at h
   split at h
   ·
    rename_i n
    cases n <;> exact h
   ·
    exact h
  ·
   exact h
 ·
  split at h
  ·
   exact h
  ·
   exact h
 ·
  split at h
  ·
   exact h
  ·
   exact h
theorem qnr (hs:env.o=DOps.std) {e:TypeId} {m:Nat} {ys:List (ty (env.code e))} {x1:AV} (hk:∀ σ',k σ'=some r→k' σ') (h:qmy env σ dst e id m ys x1 k=some r) :
  qjS env.to σ dst e id m ys x1 k':=by
 unfold qmy at h
 unfold qjS
 split at h
 ·
  split at h
  ·
   rename_i hab
   obtain⟨h1,h2⟩:=qho hs h
   rw[hs] at h2
   simp only[hab]
   exact⟨h1,fun zs e=>by subst e; exact hk _ h2⟩
  ·
   cases h
 ·
  split at h
  ·
   rename_i hl
   split at h
   ·
    rename_i hb hd
    obtain⟨h1,h2⟩:=qho hs h
    rw[hs] at h2
    have hd':decEq _ (env.to.code e)=isTrue _:=hd
    simp only[hl,hb,hd']
    exact⟨h1,fun zs e=>by subst e; exact hk _ h2⟩
   ·
    cases h
  ·
   cases h
 ·
  cases h
theorem q34 (hs:env.o=DOps.std) {c:Call} (hk:∀ σ',k σ'=some r→k' σ') (h:qzi env σ g dst c id k=some r):qig env.to σ g dst c id k':=by
 unfold qzi at h
 unfold qig
 split at h
 ·
  rename_i x1 x2 t t' ha hat
  rw[ha,hat]
  dsimp only
  split at h
  ·
   rename_i e he
   have he':qhr env.to.P t=some e:=he
   rw[he']
   dsimp only
   split at h
   ·
    cases h
   ·
    rename_i hz
    split
    ·
     rename_i hf
     exact absurd (hf.symm.trans hz) Bool.false_ne_true
    split at h
    ·
     rename_i hb
     rw[hb]
     dsimp only
     split at h
     ·
      cases h
     ·
      rename_i m ys hsr
      have hsr':qzt σ.locs (env.to.code e) (σ.ev g x2)=some (m,ys):=hsr
      rw[hsr']
      exact qnr hs hk h
    ·
     rename_i hb
     rw[hb]
     dsimp only
     split at h
     ·
      rename_i hu hx hzz
      obtain⟨h1,h2⟩:=qho hs h
      split
      ·
       rename_i hu2 hx2 hzz2
       have e1:=hx.symm.trans hx2
       have e2:=hzz.symm.trans hzz2
       cases e1; cases e2
       exact⟨h1,qnr hs hk h2⟩
      ·
       rename_i hno
       exact(hno _ _ _ hu hx hzz).elim
     ·
      cases h
  ·
   cases h
 ·
  cases h
theorem copyD_ok (hs:env.o=DOps.std) {c:Call} (hk:∀ σ',k σ'=some r→k' σ') (h:copyD env σ g dst c k=some r):qvS env.to σ g dst c k':=by
 unfold copyD at h
 unfold qvS
 rw[hs] at h
 split at h
 ·
  rename_i x1 x2 t t' ha hat
  rw[ha,hat]
  dsimp only
  split at h
  ·
   rename_i e he
   have he':qhr env.to.P t=some e:=he
   rw[he']
   dsimp only
   split at h
   ·
    rename_i hx
    rw[hx]
    dsimp only
    split at h
    ·
     rename_i ho hsr hl
     have ho':(oneT env.to.P e&&Nat.beq (szOf _) 1)=true:=ho
     rw[ho',hsr,hl]
     dsimp only
     split at h
     ·
      rename_i hd
      rw[hd]
      exact fun zs e=>by subst e; exact hk _ h
     ·
      cases h
    ·
     cases h
   ·
    cases h
  ·
   cases h
 ·
  cases h
theorem q4Q {l:List Nat} {x:AV} {bs:List (Option Blk)} {F:List Blk} (hk:∀ σ',k σ'=some r→k' σ') (h:q4L env σ dst l id k x bs F=some r):q1J env.to σ dst l id k' x bs F:=by
 unfold q4L at h
 unfold q1J
 dsimp only at h ⊢
 split at h
 ·
  rename_i h1 h2
  rw[h1,h2]
  exact hk _ h
 ·
  cases h
theorem q4R (hs:env.o=DOps.std) {s:DSpec} {args:List AV} (hk:∀ σ',k σ'=some r→k' σ') (h:q4M env σ dst s args id k=some r):q5n env.to σ dst s.to args id k':=by
 unfold q4M at h
 rw[hs] at h
 unfold q5n
 dsimp only at h ⊢
 split at h
 ·
  rename_i B hB hc
  split
  ·
   rename_i B' hB' hc'
   have e:some B=some B':=hB.symm.trans hB'
   cases e
   exact⟨R,_,r,h,fun x bs F hx=>q4Q hk hx⟩
  ·
   rename_i hno
   exact(hno B hB hc).elim
 ·
  cases h
theorem callD_ok (hs:env.o=DOps.std) {f:FuncId} {args:List AV} (hk:∀ σ',k σ'=some r→k' σ') (h:callD env σ dst f args id k=some r):qvR env.to σ dst f args id k':=by
 unfold callD at h
 unfold qvR
 dsimp only at h ⊢
 have hsp:env.to.spec f=(env.spec f).map DSpec.to:=rfl
 rw[hsp]
 split at h
 ·
  cases h
 ·
  rename_i s hf
  rw[hf]
  show (match s.own with | _::_=>_ | []=>_)
  split at h
  ·
   rename_i ho
   rw[ho]
   exact q4R hs hk h
  ·
   rename_i ho
   rw[ho]
   dsimp only
   show (match s.ro with | true=>_ | false=>_)
   split at h
   ·
    rename_i hr
    rw[hr]
    dsimp only
    split at h
    ·
     rename_i hn
     rw[hn]
     rw[hs] at h
     refine⟨R,_,r,h,fun x bs F hx=>?_⟩
     split at hx
     ·
      rename_i h1 h2
      rw[h1,h2]; exact hk _ hx
     ·
      cases hx
    ·
     cases h
   ·
    rename_i hr
    rw[hr]
    dsimp only
    split at h
    ·
     rename_i hn
     rw[hn]
     rw[hs] at h
     refine⟨R,_,r,h,fun x bs F hx=>?_⟩
     split at hx
     ·
      rename_i h1 h2
      rw[h1,h2]; exact hk _ hx
     ·
      cases hx
    ·
     cases h
theorem q4S {o:Oper} {len:Nat} {parts:Array (Nat×Operand)} {e:TypeId} {c:Nat} (hk:∀ σ',k σ'=some r→k' σ') (h:q4N env σ g o id len parts e c k=some r):qfa env.to σ g o id len parts e c k':=by
 unfold q4N at h
 unfold qfa
 split at h
 ·
  cases h
 ·
  rename_i hz
  split
  ·
   rename_i hf
   exact absurd (hf.symm.trans hz) Bool.false_ne_true
  dsimp only at h ⊢
  split at h
  ·
   cases h
  ·
   rename_i cs hc
   rw[hc]
   dsimp only
   split at h
   ·
    rename_i xs hx
    rw[hx]
    exact hk _ h
   ·
    cases h
theorem qt4 (hs:env.o=DOps.std) {e:Bool} {p:Prop} (he:p→e=true) {k:Bool→Option R} {k':Bool→Prop} (hk:∀ b,k b=some r→k' b) (h:nilD env e k=some r):∀ b:Bool,(b=true→p)→k' b:=by
 have hsame:∀ (a b:Option R),q32 a b=some r→a=some r∧b=some r:=fun a b h=>by
  unfold q32 at h
  split at h
  ·
   rename_i e; exact⟨h,e ▸ h⟩
  ·
   cases h
 unfold nilD at h
 rw[hs] at h
 intro b hb
 cases b with
 | true =>
  rw[he (hb rfl)] at h
  exact hk _ (hsame _ _ h).1
 | false =>
  cases e with
  | true=>exact hk _ (hsame _ _ h).2
  | false=>exact hk _ h
theorem eopD_ok (hs:env.o=DOps.std) {o:Oper} (hk:∀ σ',k σ'=some r→k' σ') (h:eopD env σ g o id k=some r):eop env.to σ g o id k':=by
 unfold eopD at h
 unfold eop
 split at h
 ·
  rename_i t ho
  rw[ho]
  dsimp only
  split at h
  ·
   rename_i z hz
   rw[show qbk env.to.P t=some z from hz]
   dsimp only
   split at h
   ·
    rename_i h1 h2 h3
    rw[h1,h2,h3]; exact hk _ h
   ·
    cases h
  ·
   cases h
 ·
  rename_i t x ho
  rw[ho]
  dsimp only
  split at h
  ·
   rename_i b h1 h2 h3
   split
   ·
    rename_i b' h1' h2' h3'
    cases h1.symm.trans h1'
    exact hk _ h
   ·
    rename_i hno
    exact(hno _ h1 h2 h3).elim
  ·
   cases h
 ·
  rename_i t a x ho
  rw[ho]
  dsimp only
  split at h
  ·
   cases h
  ·
   rename_i hcl
   rw[hcl]
   dsimp only at h ⊢
   split at h
   ·
    cases h
   ·
    rename_i hb
    rw[show (Nat.beq (qaq (σ.ev g x)).length (qbA env.to.P t)&&Nat.blt 0 (qaq (σ.ev g x)).length)=true from hb]
    dsimp only
    split at h
    ·
     rename_i i off ha
     rw[ha]
     dsimp only
     split at h
     ·
      rename_i ds hl
      rw[hl]
      dsimp only
      split at h
      ·
       rename_i hle
       rw[hle]; exact hk _ h
      ·
       cases h
     ·
      rename_i c xs hl
      rw[hl]
      dsimp only
      split at h
      ·
       rename_i ys h1 h2
       rw[h1,h2]
       obtain⟨h3,h4⟩:=qho hs h
       exact⟨h3,hk _ h4⟩
      ·
       cases h
     ·
      cases h
    ·
     rename_i c i idx off ha
     rw[ha]
     dsimp only at h ⊢
     split at h
     ·
      rename_i c' xs hl
      rw[hl]
      dsimp only
      split at h
      ·
       rename_i y h1 h2
       rw[h1,h2]
       obtain⟨h3,h4⟩:=qho hs h
       rw[hs] at h4
       exact⟨h3,fun zs e=>by subst e; exact hk _ h4⟩
      ·
       cases h
     ·
      cases h
    ·
     cases h
 ·
  rename_i t len parts ho
  rw[ho]
  dsimp only
  split at h
  ·
   rename_i e h1 h2 h3
   rw[show qhr env.to.P t=some e from h1,h2,h3]
   exact q4S hk h
  ·
   cases h
 ·
  rename_i t len cap ho
  rw[ho]
  dsimp only
  split at h
  ·
   rename_i e n m h1 h2 h3 h4 h5
   rw[show qhr env.to.P t=some e from h1,h2,h3,h4,h5]
   dsimp only
   split at h
   ·
    rename_i z h6 h7
    rw[show qbl env.to.P e (env.to.code e)=true from h6,show qbk env.to.P e=some z from h7]
    dsimp only
    split at h
    ·
     rename_i x h8
     rw[show dec (env.to.code e) z=some x from h8]
     obtain⟨h9,h10⟩:=qho hs h
     exact⟨h9,hk _ h10⟩
    ·
     cases h
   ·
    cases h
  ·
   cases h
 ·
  rename_i s d x ho
  rw[ho]
  dsimp only
  split at h
  ·
   rename_i e e' c i a n h1 h2 h3 h4
   rw[show env.to.P.underlying s=some _ from h1,show env.to.P.underlying d=some _ from h2,h3,h4]
   dsimp only
   split at h
   ·
    rename_i h5 h6 h7
    rw[h5,show env.to.P.underlying e'=some _ from h6,show env.to.P.underlying e=some _ from h7]
    dsimp only
    split at h
    ·
     rename_i c' xs hl
     rw[hl]
     dsimp only
     split at h
     ·
      rename_i hc
      rw[hc]
      obtain⟨h8,h9⟩:=qho hs h
      exact⟨h8,hk _ h9⟩
     ·
      cases h
    ·
     cases h
   ·
    cases h
  ·
   cases h
 ·
  rename_i op t x y yt ho
  rw[ho]
  dsimp only
  split at h
  ·
   rename_i h1 h2 h3 h4
   rw[show env.to.P.underlying t=some _ from h1,h2,h3,h4]
   exact qt4 hs (fun e=>by rw[e]; rfl) (k':=fun b=>k' (σ.put o.dst none (.bool b))) (fun b hb=>hk _ hb) h
  ·
   rename_i h1 h2 h3 h4
   rw[show env.to.P.underlying t=some _ from h1,h2,h3,h4]
   intro b hb
   have h5:=qt4 hs (fun e=>by rw[e]; rfl) (k':=fun b=>k' (σ.put o.dst none (.bool !b))) (fun b hb=>hk _ hb) h (!b) (fun e=>hb (by simpa using e))
   simpa using h5
  ·
   rename_i h1 h2 h3 h4
   rw[show env.to.P.underlying t=some _ from h1,h2,h3,h4]
   exact qt4 hs (fun e=>by rw[e]; rfl) (k':=fun b=>k' (σ.put o.dst none (.bool b))) (fun b hb=>hk _ hb) h
  ·
   rename_i h1 h2 h3 h4
   rw[show env.to.P.underlying t=some _ from h1,h2,h3,h4]
   intro b hb
   have h5:=qt4 hs (fun e=>by rw[e]; rfl) (k':=fun b=>k' (σ.put o.dst none (.bool !b))) (fun b hb=>hk _ hb) h (!b) (fun e=>hb (by simpa using e))
   simpa using h5
  ·
   cases h
 ·
  rename_i c ho
  rw[ho]
  dsimp only
  split at h
  ·
   rename_i h1 h2
   rw[h1,h2]; exact q34 hs hk h
  ·
   rename_i h1 h2
   rw[h1,h2]; exact copyD_ok hs hk h
  ·
   rename_i f h1 h2
   rw[h1,h2]
   dsimp only
   split at h
   ·
    rename_i n a b h3
    rw[h3]; exact callD_ok hs hk h
   ·
    cases h
  ·
   cases h
 ·
  cases h
theorem qns:∀ (n tc:Nat) (w:Bool),All (qzu σ n tc w)→∀ g∈qvG σ n tc w,g=true
 | 0,tc,w,_=>fun g hg=>by cases hg
 | n+1,tc,w,h=>by
  unfold qzu at h
  unfold qvG
  split at h
  ·
   rename_i h0
   rw[h0]
   dsimp only
   split at h
   ·
    rename_i b hb
    rw[hb]
    intro g hg
    cases hg with
    | head=>exact qds.2 h.1.symm
    | tail _ hg=>cases hg
   ·
    rename_i h1
    split
    ·
     rename_i b hb
     exact absurd hb (h1 b)
    ·
     exact fun g hg=>by cases hg
  ·
   rename_i tc' w' h0
   rw[h0]
   dsimp only
   split at h
   ·
    rename_i b hb
    rw[hb]
    intro g hg
    cases hg with
    | head=>exact qds.2 h.1.symm
    | tail _ hg=>exact qns n tc' w' h.2 g hg
   ·
    rename_i h1
    split
    ·
     rename_i b hb
     exact absurd hb (h1 b)
    ·
     exact qns n tc' w' h
theorem q4T:∀ {l:List Bool} {b:Bool},impB l b=true→(∀ g∈l,g=true)→b=true
 | [],b,h,_=>h
 | g::l,b,h,hg=>by
  have h:(!g||impB l b)=true:=h
  rw[hg g (.head _)] at h
  exact q4T h fun x hx=>hg x (.tail _ hx)
theorem q4U:∀ {l:List DP},allD l=true→conjD l
 | [],_=>trivial
 | [⟨p,d⟩],h=>by
  show p
  cases d with
  | isTrue hp=>exact hp
  | isFalse hp=>cases h
 | ⟨p,d⟩::x::l,h=>by
  have h:(@decide p d&&allD (x::l))=true:=h
  simp only[Bool.and_eq_true] at h
  exact⟨of_decide_eq_true h.1,q4U h.2⟩
theorem q4V {p':Prop} {gl:List Prop} {gb:List Bool} (hg:conj gl→∀ g∈gb,g=true):∀ {l:List DP} {q:Option R},(q=some r→p')→underD DOps.std gb l q=some r→q5o gl l p'
 | [],_,hq,h=>hq h
 | p::l,q,hq,h=>⟨fun hc=>q4U (q4T (req_ok h).1 (hg hc)),hq (req_ok h).2⟩
theorem qvI {b:Bool} {x y:Option R} {p q:Prop} (h:cond b x y=some r) (hx:x=some r→p) (hy:y=some r→q):br b p q:=by
 cases b
 ·
  exact hy h
 ·
  exact hx h
theorem qrc:∀ (n tc:Nat) {k:AS→Option R} {k':AS→Prop} (hk:∀ σ',k σ'=some r→k' σ'),qt3 DOps.std σ n tc k=some r→qjT σ n tc k'
 | 0,tc,k,k',hk,h=>by cases h
 | n+1,tc,k,k',hk,h=>by
  unfold qt3 at h
  unfold qjT
  split at h
  ·
   rename_i h0
   rw[h0]
   dsimp only
   split at h
   ·
    rename_i b hb
    rw[hb]; exact qvI h (hk _) (hk _)
   ·
    rename_i hb
    rw[hb]; exact hk _ h
   ·
    cases h
  ·
   rename_i tc' w0 h0
   rw[h0]
   dsimp only
   refine qrc n tc' (fun σ' hk2=>?_) h
   split at hk2
   ·
    cases hk2
   ·
    rename_i tc2 w' h2
    rw[h2]
    dsimp only
    split at hk2
    ·
     cases hk2
    ·
     rename_i h3
     rw[h3]
     dsimp only
     split at hk2
     ·
      rename_i b hb
      rw[hb]
      dsimp only
      split at hk2
      ·
       rename_i hw
       rw[hw]
       dsimp only
       split at hk2
       ·
        rename_i b2 hb2
        rw[hb2]; exact qvI hk2 (hk _) (hk _)
       ·
        rename_i hb2
        rw[hb2]; exact hk _ hk2
       ·
        cases hk2
      ·
       rename_i hw
       rw[hw]; exact hk _ hk2
     ·
      rename_i hb
      rw[hb]; exact hk _ hk2
     ·
      cases hk2
theorem q4W (hs:env.o=DOps.std) {o:Oper} (hk:∀ σ',k σ'=some r→k' σ') (h:runD env σ g o id k=some r):qnw env.to σ g o id k':=by
 unfold runD at h
 unfold qnw
 split at h
 ·
  rename_i pre v hp
  rw[show pop env.to.P σ g o=.ok pre v from hp]
  rw[hs] at h
  refine qvH (fun hq=>?_) h
  split at hq
  ·
   cases hq
  ·
   rename_i hc
   rw[hc]
   exact(q1C hs (fun v=>hk _) hq).1
 ·
  rename_i hp
  rw[show pop env.to.P σ g o=.bad from hp]
  exact eopD_ok hs hk h
theorem q1D {o:Oper} (hk:∀ σ',k σ'=some r→k' σ') (h:skipD σ o k=some r):qfb σ o k':=by
 unfold skipD at h
 unfold qfb
 split at h
 ·
  cases h
 ·
  rename_i hc
  rw[hc]; exact hk _ h
theorem qt5 (hs:env.o=DOps.std) {all:List Oper} {o:Oper} (hk:∀ σ',k σ'=some r→k' σ') (h:oneD env all o id σ k=some r):qq5 env.to all o id σ k':=by
 unfold oneD at h
 unfold qq5
 split at h
 ·
  rename_i hg
  rw[hg]; exact q4W hs hk h
 ·
  rename_i j w hg
  rw[hg]
  dsimp only
  split at h
  ·
   cases h
  ·
   rename_i tc htc
   rw[htc]
   show (match pop env.to.P σ (some (tc,w)) o with | .ok pre v=>_ | .bad=>_)
   split at h
   ·
    rename_i pre v hp
    rw[show pop env.to.P σ (some (tc,w)) o=.ok pre v from hp]
    rw[hs] at h
    refine q4V (fun hc=>qns _ _ _ (all_conj hc)) (fun hq=>?_) h
    split at hq
    ·
     rename_i h1 h2
     split
     ·
      exact(q1C hs (fun v=>hk _) hq).2
     ·
      rename_i hno
      exact(hno h1 h2).elim
    ·
     cases hq
   ·
    rename_i hp
    rw[show pop env.to.P σ (some (tc,w)) o=.bad from hp]
    rw[hs] at h
    refine qrc 20 tc (fun σ' hk2=>?_) h
    split at hk2
    ·
     rename_i b hb
     rw[hb]
     dsimp only
     split at hk2
     ·
      rename_i hw
      rw[hw]; exact q4W hs hk hk2
     ·
      rename_i hw
      rw[hw]; exact q1D hk hk2
    ·
     rename_i hb
     split
     ·
      rename_i b hb2
      exact absurd hb2 (hb b)
     ·
      exact q1D hk hk2
theorem q4X (hs:env.o=DOps.std) {all:List Oper} (hk:∀ σ',k σ'=some r→k' σ'):∀ {l:List Oper} {id:Nat} {σ:AS},opsD env all l id σ k=some r→q38 env.to all l id σ k'
 | [],_,_,h=>hk _ h
 | o::l,id,σ,h=>by
  unfold opsD at h
  unfold q38
  exact qt5 hs (fun σ' hk2=>q4X hs hk hk2) h
theorem qvJ (n:Nat) (k:Nat→Prop):qa0 n k=k n:=by cases n <;> rfl
theorem qvK (n:Nat) (k:Nat→Option R):q4O n k=k n:=by cases n <;> rfl
theorem q4Y (hs:env.o=DOps.std) {ops:List Oper} {f:Nat→Oper→Option R} {f':Nat→Oper→Prop} (hf:∀ i o,f i o=some r→f' i o):∀ {l:List Nat},allO env.o ops f l=some r→allM ops f' l
 | [],h=>by cases h
 | [i],h=>by
  unfold allO at h
  unfold allM
  dsimp only at h ⊢
  split at h
  ·
   rename_i o ho
   rw[ho]; exact hf _ _ h
  ·
   cases h
 | i::j::l,h=>by
  unfold allO at h
  unfold allM
  rw[hs] at h
  dsimp only at h ⊢
  have hsame:∀ (a b:Option R),q32 a b=some r→a=some r∧b=some r:=fun a b h=>by
   unfold q32 at h
   split at h
   ·
    rename_i e; exact⟨h,e ▸ h⟩
   ·
    cases h
  obtain⟨h1,h2⟩:=hsame _ _ h
  refine⟨?_,q4Y hs hf (by rw[hs]; exact h2)⟩
  split at h1
  ·
   rename_i o ho
   rw[ho]; exact hf _ _ h1
  ·
   cases h1
theorem qzj (hs:env.o=DOps.std) {ops:Array Oper} (hk:∀ σ',k σ'=some r→k' σ'):∀ {n m:Nat} {σ:AS},anyD env ops id n m σ k=some r→qnx env.to ops id n m σ k'
 | 0,m,σ,h=>by
  unfold anyD at h
  unfold qnx
  split at h
  ·
   rename_i hr
   rw[hr]; exact hk _ h
  ·
   cases h
 | n+1,m,σ,h=>by
  unfold anyD at h
  unfold qnx
  split at h
  ·
   rename_i hr
   rw[hr]; exact hk _ h
  ·
   rename_i rs hr
   split
   ·
    rename_i hr2
    exact(hr hr2).elim
   ·
    split at h
    ·
     rename_i i o hp
     rw[hp]
     refine qt5 hs (fun σ' hk2=>?_) h
     rw[qvK] at hk2
     rw[qvJ]
     exact qzj hs hk hk2
    ·
     rename_i hp
     rw[hp]
     refine q4Y hs (fun i o hk1=>qt5 hs (fun σ' hk2=>?_) hk1) h
     rw[qvK] at hk2
     rw[qvJ]
     exact qzj hs hk hk2
end
end Go.Eng
