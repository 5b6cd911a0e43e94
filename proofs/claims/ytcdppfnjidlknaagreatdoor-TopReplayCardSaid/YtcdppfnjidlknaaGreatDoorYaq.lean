import Derived.Test.YtcdppfnjidlknaaGreatDoorYap
import Derived.Test.YtcdppfnjidlknaaGreatDoorProg
import Derived.Lib.TrailingZeros
import Derived.Lib.MakeNoZero
import Derived.WalkKit
import Derived.WalkSpells
set_option linter.unusedVariables false
set_option linter.unusedSimpArgs false
namespace Go.Proofs.YtcdppfnjidlknaaGreatDoor
open Go Go.Eng Go.Proofs Go.Lib Go.RowKit
theorem DH.of {P:Program} {f:Nat} {S:Eng.Spec} (h:qbe P f S) (d:DSpec) (e1:S.ro=d.ro) (e2:S.own=d.own) (e3:S.lend=d.lend)
  (g:∀ (R:Type) (args:List AV) (B:List Blk) (K:KO R) (r:R) (k:AV→List (Option Blk)→List Blk→Prop),d.run DOps.std R args B K=some r→(∀ x bs F,K x bs F=some r→k x bs F)→S.run args B k):DH P f d:=by
 refine⟨?_⟩
 obtain⟨ro,own,lend,run⟩:=S
 obtain⟨ro',own',lend',run'⟩:=d
 dsimp only at e1 e2 e3 g
 subst e1;subst e2;subst e3
 cases own with
 |nil =>
  refine qcO.h ?_ rfl
  intro w im vals args k o a next Q him hKc hlen hrep hrun hnext
  obtain⟨R,K,r,hrun,hK⟩:=hrun
  exact h.a rfl w im vals args k o a next Q him hKc hlen hrep (g R args [] K r k hrun hK) hnext
 |cons b bs =>
  refine qmd.h ?_ (by show b::bs≠[];simp)
  intro w im ρ0 vals args B k o a next Q him hKc hnB hL hlen hrep hrun hnext
  obtain⟨R,K,r,hrun,hK⟩:=hrun
  exact h.b rfl w im ρ0 vals args B k o a next Q him hKc hnB hL hlen hrep (g R args B K r k hrun hK) hnext
def mnzS:Eng.Spec:={ro:=true,own:=[],run:=fun args _ k=>match args with
 | [.int .i64 n]=>(0≤n∧n≤1000000)∧∀ (xs:List UInt8) (q:Nat),(q:Int)=n→xs.length=q→k (.row 0 0 0 q) [] [.row 0 xs]
 |_=>False}
def q7i (v:Value):Prop:=∃ x:Nat,x<256∧v=.int .u8 (x:Int)
theorem qoH:∀ (n t:Nat) (acc:Array Value),(∀ v∈acc,q7i v)→∀ v∈Extern.BytealgMakeNoZero.digits n t acc,q7i v
 |0,_,_,h=>h
 |n+1,t,acc,h=>by
  rw[Extern.BytealgMakeNoZero.digits]
  refine qoH n _ _ fun v hv=>?_
  rcases Array.mem_push.1 hv with hv|hv
  ·
   exact h v hv
  ·
   exact⟨t % 256,Nat.mod_lt _ (by decide),hv⟩
theorem mnz_run {P:Program} (w:World) (ps:Array TypeId) (t e:TypeId) (ht:P.underlying t=some (.slice e)) (n:Nat) (hn:n≤1000000) :
  ∃ cs:Array Value,(Extern.BytealgMakeNoZero.makeNoZero ps #[t] #[.int .i64 n]).run P w=.ok (.slice (some ⟨w.heap.size,0,none⟩) n cs.size) (w.drew.drew.alloc (.cells cs e))∧n≤cs.size∧cs.size≤maxLen∧∀ v∈cs,q7i v:=by
 refine⟨Extern.BytealgMakeNoZero.digits (grownCap w n 0 e) ((Question.extern "internal/bytealg.MakeNoZero.bytes" 0).cut (w.tape (w.drawn+1) (.extern "internal/bytealg.MakeNoZero.bytes" 0))) #[],?_,?_,?_,?_⟩
 ·
  refine(show _=((underlying t >>= ?f):Sem Value).run P w from rfl).trans ?_
  have h1:¬ (n:Int)<0:=by omega
  have h2:¬ (281474976710656:Int)<(n:Int):=by omega
  simp[run_underlying ht,h1,h2,Question.forced,newRow,size_digits,grownCap]
 ·
  rw[size_digits]
  simpa using grownCap_ge w n 0 e
 ·
  rw[size_digits]
  simpa using grownCap_le_maxLen w n 0 e (by unfold maxLen;omega)
 ·
  exact qoH _ _ _ fun v hv=>by simp at hv
def q3j:Value→UInt8
 |.int _ z=>UInt8.ofNat z.toNat
 |_=>0
set_option maxRecDepth 20000 in
theorem mnz_ok:qbe Tryz.prog 210 mnzS:=by
 refine qcO.h ?_ rfl
 intro w im vals args k o a next Q him hKc hlen hrep hrun hnext
 unfold mnzS at hrun
 dsimp only at hrun
 split at hrun
 ·
  rename_i n
  obtain⟨hx,hk⟩:=hrun
  obtain⟨u,rfl⟩:∃ u,vals=#[u]:=by
   match vals,hlen with
   |⟨[u]⟩,_=>exact⟨u,rfl⟩
  obtain⟨rfl,-⟩:=(hrep 0 u rfl).inv_int
  have hx0:0≤n:=hx.1
  have hx1:n≤1000000:=hx.2
  obtain⟨m,hm⟩:∃ m:Nat,n=(m:Int):=⟨n.toNat,by omega⟩
  subst hm
  have hm1:m≤1000000:=by omega
  obtain⟨cs,hr,h1,h2,h3⟩:=mnz_run (P:=Tryz.prog) w #[3] 30 5 (by kernel_rfl) m hm1
  rw[run_callFunc_extern Tryz.func210 (by kernel_rfl) (by kernel_rfl) (by kernel_rfl) (e:=Extern.BytealgMakeNoZero.makeNoZero #[3] #[30]) (by kernel_rfl),hr]
  show next _ _
  have hxl:((cs.toList.take m).map q3j).length=m:=by rw[List.length_map,List.length_take,Array.length_toList];omega
  refine hnext _ _ (fun b=>(true:Bool)=false∧im b) (fun j=>if j=0 then some (some w.heap.size,m) else none) (.row 0 0 0 m) [.row 0 ((cs.toList.take m).map q3j)] (hk _ m rfl hxl) ?_
  exact{
   below:=((RowKit.Below.refl _ w).drew.drew).alloc (Nat.le_refl _) _
   imold:=fun e=>by cases e
   imnew:=fun b hb=>.inl hb
   dom:=fun j hj=>by
    have:j≠0:=by rintro rfl;simp at hj
    rw[if_neg this]
   blk:=fun j b hj=>by
    cases j with
    |succ j=>simp at hj
    |zero =>
     simp only[List.getElem?_cons_zero,Option.some.injEq] at hj
     subst hj
     refine⟨(some w.heap.size,m),if_pos rfl,hxl.symm,.inr ⟨w.heap.size,cs,5,cs.size,rfl,qoo w.drew.drew _,by show cs.size=cs.size*1;omega,by rw[hxl];exact h1,h2,fun j v hv=>?_,fun i j x v hi hj hv=>?_⟩⟩
     ·
      obtain⟨y,-,rfl⟩:=h3 v (Array.mem_of_getElem? hv)
      rfl
     ·
      have hj0:j=0:=by have:szOf 0=1:=rfl;omega
      subst hj0
      have hv:cs[i]? = some v:=by
                      have e:i*szOf 0+0=i:=by show i*1+0=i;omega
                      rw[e] at hv;exact hv
      obtain⟨y,hy,rfl⟩:=h3 v (Array.mem_of_getElem? hv)
      rw[List.getElem?_map,List.getElem?_take] at hi
      split at hi
      ·
       have e2:cs.toList[i]? = some (.int .u8 (y:Int)):=by simpa using hv
       rw[e2] at hi
       simp only[Option.map_some,Option.some.injEq] at hi
       subst hi
       have e3:((q3j (.int .u8 (y:Int))).toNat:Int)=(y:Int):=by
        show ((UInt8.ofNat (y:Int).toNat).toNat:Int)=_
        rw[Int.toNat_natCast]
        have:(UInt8.ofNat y).toNat=y:=by rw[UInt8.toNat_ofNat'];exact Nat.mod_eq_of_lt hy
        rw[this]
       show Rep _ _ _ (Value.int .u8 (y:Int)) (.int .u8 ((q3j (.int .u8 (y:Int))).toNat:Int))
       rw[e3]
       exact .int ⟨by show (0:Int)≤_;omega,by show _≤(255:Int);omega⟩
      ·
       simp at hi
   inj:=fun i j b m m' hi hj=>by
    have h1:i=0:=by
     by_cases c:i=0
     ·
      exact c
     ·
      rw[if_neg c] at hi;cases hi
    have h2:j=0:=by
     by_cases c:j=0
     ·
      exact c
     ·
      rw[if_neg c] at hj;cases hj
    rw[h1,h2]
   notim:=fun _ _ _ _ hb=>by cases hb.1
   fresh:=fun i b m hi=>by
    by_cases c:i=0
    ·
     rw[if_pos c] at hi
     simp only[Option.some.injEq,Prod.mk.injEq] at hi
     omega
    ·
     rw[if_neg c] at hi;cases hi
   rep:=.row (x:=0) (m:=m) (o:=0) (e:=5) (if_pos rfl) (by omega) (by omega) h1 h2 (by
    have:=qf6 w.drew.drew cs 5
    show (w.drew.drew.alloc (.cells cs 5)).shape? w.drew.drew.heap.size=_
    rw[this]
    show some (5,cs.size)=some (5,(0+cs.size+0)*1)
    rw[Nat.zero_add,Nat.add_zero,Nat.mul_one])}
 ·
  exact hrun.elim
noncomputable def mnzD:DSpec:={ro:=true,run:=fun o R args _ k=>match args with
 | [.int .i64 n]=>req (decide (0≤n)) (req (decide (n≤1000000)) (o.any fun g:Nat→UInt8=>k (.row 0 0 0 n.toNat) [] [.row 0 ((List.range n.toNat).map g)]))
 |_=>none}
set_option maxRecDepth 20000 in
theorem mnz_dh:DH Tryz.prog 210 mnzD:=by
 refine DH.of mnz_ok mnzD rfl rfl rfl fun R args B K r k h hk=>?_
 unfold mnzD at h
 dsimp only at h
 unfold mnzS
 dsimp only
 split at h
 ·
  rename_i n
  obtain⟨h0,h⟩:=req_ok h
  obtain⟨h1,h⟩:=req_ok h
  have h0:=of_decide_eq_true h0
  have h1:=of_decide_eq_true h1
  refine⟨⟨h0,h1⟩,fun xs q hq hx=>?_⟩
  have:=q5O h (fun i=>xs.getD i 0)
  have e:(List.range n.toNat).map (fun i=>xs.getD i 0)=xs:=by
   apply List.ext_getElem?
   intro i
   rw[List.getElem?_map]
   by_cases hi:i<n.toNat
   ·
    rw[List.getElem?_range hi]
    have:i<xs.length:=by omega
    simp[List.getD_eq_getElem?_getD,List.getElem?_eq_getElem this]
   ·
    rw[List.getElem?_eq_none (by simp;omega),List.getElem?_eq_none (by omega)];rfl
  rw[e] at this
  have e2:n.toNat=q:=by omega
  rw[e2] at this
  exact hk _ _ _ this
 ·
  cases h
theorem ofNw (w a:Nat):BitVec.ofInt w (a:Int)=BitVec.ofNat w a:=by
 apply BitVec.eq_of_toNat_eq
 rw[BitVec.toNat_ofInt,BitVec.toNat_ofNat]
 omega
theorem uwrap (κ:IntKind)(h:κ.signed=false)(x:Nat)(hx:x<2 ^ κ.bits):κ.wrap (x:Int)=x:=by
 simp only[IntKind.wrap,h,Bool.false_and,Bool.false_eq_true,if_false]
 have e:((2:Int) ^ κ.bits)=((2 ^ κ.bits:Nat):Int):=by simp
 rw[e,← Int.natCast_emod,Nat.mod_eq_of_lt hx]
theorem q3k (κ:IntKind)(h:κ.signed=false)(a b:Nat)(ha:a<2 ^ κ.bits)(hb:b<2 ^ κ.bits):bits BinOp.and κ (a:Int) (b:Int)=((a &&& b:Nat):Int):=by
 show κ.wrap ((BitVec.ofInt κ.bits (a:Int) &&& BitVec.ofInt κ.bits (b:Int)).toNat:Int)=_
 rw[ofNw,ofNw,BitVec.toNat_and,BitVec.toNat_ofNat,BitVec.toNat_ofNat,Nat.mod_eq_of_lt ha,Nat.mod_eq_of_lt hb]
 exact uwrap κ h _ (Nat.and_lt_two_pow _ hb)
theorem tz_ret (P:Program) (f:Nat) (κ:IntKind) (n:Nat) (hn:n≤64) (H:∀ x:Nat,x<2 ^ κ.bits→κ.signed=false→∀ (w:World) (im:Nat→Prop),Kc w im→Calls P f #[.int κ x] w fun e w'=>e=.returned (.int .i64 (Lib.ctz n x))∧w'=w)
  (hc:∀ args w,(callFunc f args).run P w=.ok (.enter f args) w) (hs:κ.signed=false) (F:Int→Option Int) (hF:∀ (x n2:Int),F x=some n2→0≤x∧x.toNat<2 ^ κ.bits∧n2=(Lib.ctz n x.toNat:Nat)∧Lib.ctz n x.toNat≤64) :
  DH P f {ro:=true,run:=fun o R args _ k=>match args with
   | [.int κ' x]=>match qcc κ' κ with
    |true=>o.bind (F x) fun n=>k (.int .i64 n) [] []
    |false=>none
   |_=>none}:=by
 refine⟨qcO.h ?_ rfl⟩
 intro w im vals args k o a next Q him hKc hlen hrep hrun hnext
 obtain⟨R,K,r,hrun,hK⟩:=hrun
 dsimp only at hrun
 split at hrun
 ·
  rename_i κ' x
  split at hrun
  ·
   rename_i hk
   cases qaI hk
   obtain⟨n2,h1,h2⟩:=qc4 hrun
   obtain⟨g0,g1,g2,hb⟩:=hF _ _ h1
   obtain⟨u,rfl⟩:∃ u,vals=#[u]:=by
    match vals,hlen with
    |⟨[u]⟩,_=>exact⟨u,rfl⟩
   obtain⟨rfl,-⟩:=(hrep 0 u rfl).inv_int
   obtain⟨x,rfl⟩:=Int.eq_ofNat_of_zero_le g0
   rw[hc]
   refine qc5 (H x g1 hs w im hKc) fun e w' he=>?_
   obtain⟨rfl,rfl⟩:=he
   rw[Int.toNat_natCast] at hb
   subst g2
   exact hnext _ _ (fun b=>(true:Bool)=false∧im b) qai (.int .i64 (Lib.ctz n x:Nat)) [] (hK _ _ _ h2) {below:=RowKit.Below.refl _ _,imold:=fun e b hb=>⟨e,hb⟩,imnew:=fun b hb=>.inl hb,dom:=fun _ _=>rfl,blk:=fun j b hj=>by simp at hj,inj:=fun _ _ _ _ _ hi=>by simp[qai] at hi,notim:=fun _ _ _ hi=>by simp[qai] at hi,fresh:=fun _ _ _ hi=>by simp[qai] at hi,rep:=.int (by show inK .i64 _;exact⟨by omega,by omega⟩)}
  ·
   cases hrun
 ·
  cases hrun
theorem q7j (n x:Nat)(h:x<2 ^ n):Lib.ctz n x≤n:=by
 by_cases h0:x=0
 ·
  subst h0;unfold Lib.ctz;simp
 ·
  have:=(Lib.lowest_bit n x h0 h).2;omega
set_option maxHeartbeats 2000000 in
theorem q7k (x k idx:Nat) (w:World) (hx0:((x:Int)==0)=false)
  (key:bits BinOp.and IntKind.u32 (x:Int) (-(x:Int) % 4294967296)*125613361 % 4294967296 / 134217728=(idx:Int))
  (hi:idx<32) (hk:k<32) (hcell:w.cell? ⟨0,idx,none⟩=some (.int .u8 k)) :
  Calls Tryz.prog 172 #[.int .u32 x] w fun e w'=>e=.returned (.int .i64 k)∧w'=w:=by
 go_enter Tryz.func172,Tryz.ntmps172
 go_wp2_with (simp only[key])
 go_ret
 exact⟨rfl,rfl⟩
theorem q7l (w:World):Calls Tryz.prog 172 #[.int .u32 0] w fun e w'=>e=.returned (.int .i64 32)∧w'=w:=by
 go_enter Tryz.func172,Tryz.ntmps172
 go_wp2
 go_ret
 exact⟨rfl,rfl⟩
theorem tz32_key (x a:Nat) (hx:x<4294967296) (hx0:x≠0) (hlow:x &&& (4294967296-x)=a) :
  bits BinOp.and IntKind.u32 (x:Int) (-(x:Int) % 4294967296)*125613361 % 4294967296 / 134217728=((a*125613361 % 4294967296 / 134217728:Nat):Int):=by
 have e1:-(x:Int) % 4294967296=((4294967296-x:Nat):Int):=by omega
 rw[e1,q3k .u32 rfl x _ hx (by show _<4294967296;omega),hlow]
 omega
theorem tz32_all (x:Nat) (hx:x<4294967296) (w:World) (im:Nat→Prop) (hK:Kc w im) :
  Calls Tryz.prog 172 #[.int .u32 x] w fun e w'=>e=.returned (.int .i64 (Lib.ctz 32 x))∧w'=w:=by
 by_cases hx0:x=0
 ·
  subst hx0
  exact q7l w
 ·
  obtain⟨hlow,hk⟩:=Lib.lowest_bit 32 x hx0 hx
  obtain⟨hi,htab⟩:=Lib.deBruijn32_at _ hk
  have hcell:=hK.1.2 _ hi
  rw[htab] at hcell
  exact q7k x _ _ w (by simp;omega) (tz32_key x _ hx hx0 hlow) hi hk hcell
set_option maxHeartbeats 2000000 in
theorem q7m (x k idx:Nat) (w:World) (hx0:((x:Int)==0)=false)
  (key:IntKind.u64.wrap (bits BinOp.and IntKind.u64 (x:Int) (IntKind.u64.wrap (-(x:Int)))*285870213051353865) / 288230376151711744=(idx:Int))
  (hi:idx<64) (hk:k<64) (hcell:w.cell? ⟨2,idx,none⟩=some (.int .u8 k)) :
  Calls Tryz.prog 191 #[.int .u64 x] w fun e w'=>e=.returned (.int .i64 k)∧w'=w:=by
 go_enter Tryz.func191,Tryz.ntmps191
 go_wp2_with (simp only[key])
 go_ret
 exact⟨rfl,rfl⟩
theorem q7n (w:World):Calls Tryz.prog 191 #[.int .u64 0] w fun e w'=>e=.returned (.int .i64 64)∧w'=w:=by
 go_enter Tryz.func191,Tryz.ntmps191
 go_wp2
 go_ret
 exact⟨rfl,rfl⟩
theorem tz64_key (x a:Nat) (hx:x<18446744073709551616) (hx0:x≠0) (hlow:x &&& (18446744073709551616-x)=a) :
  IntKind.u64.wrap (bits BinOp.and IntKind.u64 (x:Int) (IntKind.u64.wrap (-(x:Int)))*285870213051353865) / 288230376151711744=((a*285870213051353865 % 18446744073709551616 / 288230376151711744:Nat):Int):=by
 have uw:∀ y:Int,IntKind.u64.wrap y=y % 18446744073709551616:=fun y=>by simp[IntKind.wrap,IntKind.signed,IntKind.bits]
 have e1:IntKind.u64.wrap (-(x:Int))=((18446744073709551616-x:Nat):Int):=by rw[uw];omega
 rw[e1,uw,q3k .u64 rfl x _ hx (by show _<18446744073709551616;omega),hlow]
 omega
theorem tz64_all (x:Nat) (hx:x<18446744073709551616) (w:World) (im:Nat→Prop) (hK:Kc w im) :
  Calls Tryz.prog 191 #[.int .u64 x] w fun e w'=>e=.returned (.int .i64 (Lib.ctz 64 x))∧w'=w:=by
 by_cases hx0:x=0
 ·
  subst hx0
  exact q7n w
 ·
  obtain⟨hlow,hk⟩:=Lib.lowest_bit 64 x hx0 hx
  obtain⟨hi,htab⟩:=Lib.deBruijn64_at _ hk
  have hcell:=hK.2.2 _ hi
  rw[htab] at hcell
  exact q7m x _ _ w (by simp;omega) (tz64_key x _ hx hx0 hlow) hi hk hcell
noncomputable def qax (x:Int):Option Int:=req (decide (0≤x)) (req (decide (x<4294967296)) (some (Lib.ctz 32 x.toNat:Nat)))
noncomputable def qay (x:Int):Option Int:=req (decide (0≤x)) (req (decide (x<18446744073709551616)) (some (Lib.ctz 64 x.toNat:Nat)))
noncomputable def tzD (κ:IntKind)(F:Int→Option Int):DSpec:={ro:=true,run:=fun o R args _ k=>match args with
   | [.int κ' x]=>match qcc κ' κ with
    |true=>o.bind (F x) fun n=>k (.int .i64 n) [] []
    |false=>none
   |_=>none}
theorem tz32_dh:DH Tryz.prog 172 (tzD .u32 qax) :=
 tz_ret Tryz.prog 172 .u32 32 (by decide) (fun x hx _ w im hK=>tz32_all x hx w im hK) Tryz.call172 rfl _ fun x n2 h=>by
  unfold qax at h
  obtain⟨h0,h⟩:=req_ok h
  obtain⟨h1,h⟩:=req_ok h
  have h0:=of_decide_eq_true h0
  have h1:=of_decide_eq_true h1
  simp only[Option.some.injEq] at h
  exact⟨h0,by show _<4294967296;omega,h.symm,by have:=q7j 32 x.toNat (by omega);omega⟩
theorem tz64_dh:DH Tryz.prog 191 (tzD .u64 qay) :=
 tz_ret Tryz.prog 191 .u64 64 (by decide) (fun x hx _ w im hK=>tz64_all x hx w im hK) Tryz.call191 rfl _ fun x n2 h=>by
  unfold qay at h
  obtain⟨h0,h⟩:=req_ok h
  obtain⟨h1,h⟩:=req_ok h
  have h0:=of_decide_eq_true h0
  have h1:=of_decide_eq_true h1
  simp only[Option.some.injEq] at h
  exact⟨h0,by show _<18446744073709551616;omega,h.symm,by have:=q7j 64 x.toNat (by omega);omega⟩
def qeo (p:Pls)(x:Bool)(hold:Int):Pls :=
 let s:=min (IntKind.i64.wrap ((bif x != p.rawf then 0 else p.sincef)+1)) 1048576
 ⟨bif decide (s≥hold) then x else p.upf,x,s⟩
def qfC (p:Pls)(raw:Bool)(hold:Int):Option (Int×Pls) :=
 bif decide (p.sincef<0)||decide (p.sincef > 1048576) then some (8,⟨false,false,0⟩) else bif decide (hold<1)||decide (hold > 1048576) then some (2,⟨false,false,0⟩) else some (0,qeo p raw hold)
def qaC (place:Int):List Int→Int→Int→Int×Int×Int
 | [],_,_=>(0,0,170)
 |n::r,i,e=>bif decide (place<IntKind.i64.wrap (e+n)) then (i,IntKind.i64.wrap (IntKind.i64.wrap (place-IntKind.i64.wrap (e+n))+n),0) else qaC place r (IntKind.i64.wrap (i+1)) (IntKind.i64.wrap (e+n))
def qoI (q:Option (Bool×Int))(p:Plan)(tick:Int):Option (Int×Int×Int):=match q with
 |none=>none
 |some (is,e)=>bif e != 0 then some (0,0,e) else bif !is then some (0,0,170) else bif decide (tick<0)||decide (tick > 1073741824) then some (0,0,2) else
  req (decide (p.cycle≠0)) (some (qaC (Int.tmod (IntKind.i64.wrap (IntKind.i64.wrap (tick+p.cycle)-p.offset)) p.cycle) p.splits 0 0))
end Go.Proofs.YtcdppfnjidlknaaGreatDoor
namespace Go.Proofs.YtcdppfnjidlknaaGreatDoor
open Go Go.Eng Go.Proofs
def tyC:Nat→Nat:=fun t=>match t with
 |2=>1|3=>1|4=>4|5=>0|30=>6|41=>2|43=>24|51=>11|54=>8|66=>7|68=>10|87=>17|99=>18|145=>9|150=>21|152=>3|154=>22|166=>20|186=>19|232=>23
 |_=>99
def tyC0:Nat→Nat:=fun _=>99
noncomputable abbrev qae (d:DFn) (fn:Func) (f:d.In→Option d.T):DSpec:=d.spec Tryz.prog fn f
theorem qad (T:DT) (l c:List (Nat×Pat)) (li:List Nat) (hT:DTok Tryz.prog T) {f:Nat} {fn:Func} {d:DFn} {Fo:DOps→d.In→Option d.T} {F:d.In→Option d.T} (hE:Fo DOps.std=F) (hF:Same (mkDE Tryz.prog tyC T l c li) d fn Fo) (hf:Tryz.prog.funcs[f]? = some fn)
  (hc:∀ args w,(callFunc f args).run Tryz.prog w=.ok (.enter f args) w):DH Tryz.prog f (d.spec Tryz.prog fn F) :=
 hE▸q6h (P:=Tryz.prog) (code:=tyC) T l c li hT hF hf hc
theorem holdsD0 (T:DT) (l c:List (Nat×Pat)) (li:List Nat) (hT:DTok Tryz.prog T) {f:Nat} {fn:Func} {d:DFn} {Fo:DOps→d.In→Option d.T} {F:d.In→Option d.T} (hE:Fo DOps.std=F) (hF:Same (mkDE Tryz.prog tyC0 T l c li) d fn Fo) (hf:Tryz.prog.funcs[f]? = some fn)
  (hc:∀ args w,(callFunc f args).run Tryz.prog w=.ok (.enter f args) w):DH Tryz.prog f (d.spec Tryz.prog fn F) :=
 hE▸q6h (P:=Tryz.prog) (code:=tyC0) T l c li hT hF hf hc
theorem holdsT (T:DT) (l c:List (Nat×Pat)) (li:List Nat) (hT:DTok Tryz.prog T) {f n:Nat} {fn:Func} {d:DFn} {Fo:DOps→d.In→Option d.T} {F:d.In→Option d.T} (hown:d.own=[]) (hE:Fo DOps.std=F) (hF:SameT (mkDE Tryz.prog tyC T l c li) d n fn Fo) (hf:Tryz.prog.funcs[f]? = some fn)
  (hc:∀ args w,(callFunc f args).run Tryz.prog w=.ok (.enter f args) w) (hcall:∀ args w,(callFunc n args).run Tryz.prog w=.ok (.enter n args) w):DH Tryz.prog f (d.spec Tryz.prog fn F) :=
 hE▸holdsTE (P:=Tryz.prog) (code:=tyC) T l c li hT hown hF hf hc hcall
end Go.Proofs.YtcdppfnjidlknaaGreatDoor
