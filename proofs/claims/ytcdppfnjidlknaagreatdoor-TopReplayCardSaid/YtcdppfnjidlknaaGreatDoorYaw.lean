import Derived.Test.YtcdppfnjidlknaaGreatDoorYav
set_option linter.unusedVariables false
set_option linter.unusedSimpArgs false
namespace Go.Wp
open Go Go.Eng
theorem ofNw (w a:Nat):BitVec.ofInt w (a:Int)=BitVec.ofNat w a:=BitVec.ofInt_natCast w a
theorem uwrap (κ:IntKind)(h:κ.signed=false)(x:Nat)(hx:x<2 ^ κ.bits):κ.wrap (x:Int)=x:=by
 simp only[IntKind.wrap,h,Bool.false_and,Bool.false_eq_true,if_false]
 have e:((2:Int) ^ κ.bits)=((2 ^ κ.bits:Nat):Int):=by simp
 rw[e,← Int.natCast_emod,Nat.mod_eq_of_lt hx]
theorem q40 (κ:IntKind)(h:κ.signed=false)(op:BinOp)(x y:Int):∃ c:Nat,bits op κ x y=(c:Int)∧c<2 ^ κ.bits:=by
 have e:bits op κ x y=κ.wrap (((match op with
  |.and=>BitVec.ofInt κ.bits x &&& BitVec.ofInt κ.bits y
  |.or=>BitVec.ofInt κ.bits x ||| BitVec.ofInt κ.bits y
  |.xor=>BitVec.ofInt κ.bits x ^^^ BitVec.ofInt κ.bits y
  |_=>BitVec.ofInt κ.bits x &&& ~~~ BitVec.ofInt κ.bits y:BitVec κ.bits).toNat:Nat):Int):=by cases op<;>rfl
 rw[e]
 exact⟨_,uwrap κ h _ (BitVec.isLt _),BitVec.isLt _⟩
theorem q0h (op:BinOp)(x y:Int):0≤bits op .u32 x y∧bits op .u32 x y<4294967296:=by
 obtain⟨c,e,h⟩:=q40 .u32 rfl op x y
 have h:c<4294967296:=h
 rw[e];omega
theorem lt32 {a:Nat}(h:a<4294967296):a<2 ^ 32:=h
theorem u32_and {a b:Nat}(ha:a<4294967296)(hb:b<4294967296):bits .and .u32 (a:Int) (b:Int)=((a &&& b:Nat):Int):=by
 show IntKind.u32.wrap ((BitVec.ofInt 32 (a:Int) &&& BitVec.ofInt 32 (b:Int)).toNat:Int)=_
 rw[ofNw,ofNw,BitVec.toNat_and,BitVec.toNat_ofNat,BitVec.toNat_ofNat,Nat.mod_eq_of_lt (lt32 ha),Nat.mod_eq_of_lt (lt32 hb)]
 exact uwrap .u32 rfl _ (Nat.and_lt_two_pow _ hb)
theorem u32_not {a b:Nat}(ha:a<4294967296)(hb:b<4294967296):∃ c:Nat,bits .andNot .u32 (a:Int) (b:Int)=(c:Int)∧∀ j,c.testBit j=(a.testBit j && !b.testBit j):=by
 refine⟨(BitVec.ofNat 32 a &&& ~~~ BitVec.ofNat 32 b).toNat,?_,fun j=>?_⟩
 ·
  show IntKind.u32.wrap ((BitVec.ofInt 32 (a:Int) &&& ~~~ BitVec.ofInt 32 (b:Int)).toNat:Int)=_
  rw[ofNw,ofNw]
  exact uwrap .u32 rfl _ (BitVec.isLt _)
 ·
  rw[BitVec.testBit_toNat,BitVec.getLsbD_and,BitVec.getLsbD_not,BitVec.getLsbD_ofNat,BitVec.getLsbD_ofNat]
  by_cases h:j<32
  ·
   simp[h]
  ·
   have:a.testBit j=false:=Nat.testBit_lt_two_pow (Nat.lt_of_lt_of_le (lt32 ha) (Nat.pow_le_pow_right (by decide) (by omega)))
   simp[this]
def hb (s i:Int):Bool:=s.toNat.testBit i.toNat
theorem hb_lt {s i:Int}{n:Nat}(h:s<2 ^ n)(g:hb s i=true):i.toNat<n:=by
 rcases Nat.lt_or_ge i.toNat n with h1|h1
 ·
  exact h1
 ·
  have h2:s.toNat<2 ^ n:=by
   have e:((2:Int) ^ n)=((2 ^ n:Nat):Int):=by simp
   have hp:=Nat.two_pow_pos n
   rw[e] at h
   generalize 2 ^ n=q at h hp ⊢
   omega
  have:=Nat.testBit_lt_two_pow (x:=s.toNat) (i:=i.toNat) (Nat.lt_of_lt_of_le h2 (Nat.pow_le_pow_right (by decide) h1))
  unfold hb at g;rw[this] at g;cases g
theorem q41 {i:Int}(h:0≤i∧i≤31):0<2 ^ i.toNat∧2 ^ i.toNat<4294967296 :=
 ⟨Nat.two_pow_pos _,Nat.lt_of_le_of_lt (Nat.pow_le_pow_right (by decide) (show i.toNat≤31 by omega)) (by decide)⟩
theorem and_pow (a k:Nat):(a &&& 2 ^ k)=if a.testBit k then 2 ^ k else 0:=by
 apply Nat.eq_of_testBit_eq
 intro j
 rw[Nat.testBit_and,Nat.testBit_two_pow]
 by_cases h:k=j
 ·
  subst h;cases hc:a.testBit k<;>simp
 ·
  cases hc:a.testBit k<;>simp[h,Nat.testBit_two_pow]
def bitN (i:Int):Int:=if 0≤i∧i≤31 then ((2 ^ i.toNat:Nat):Int) else 0
theorem has_eq {s i:Int}(hs:0≤s∧s<4294967296):(bits .and .u32 s (bitN i) != 0)=(decide (0≤i)&&decide (i≤31)&&hb s i):=by
 obtain⟨s,rfl⟩:=Int.eq_ofNat_of_zero_le hs.1
 unfold bitN hb
 by_cases hi:0≤i∧i≤31
 ·
  rw[if_pos hi,u32_and (by omega) (q41 hi).2,and_pow,Int.toNat_natCast]
  have:=(q41 hi).1
  cases s.testBit i.toNat
  ·
   simp[hi]
  ·
   rw[if_pos rfl,decide_eq_true hi.1,decide_eq_true hi.2]
   exact bne_iff_ne.2 (by omega)
 ·
  rw[if_neg hi,show (0:Int)=((0:Nat):Int) from rfl,u32_and (by omega) (by decide)]
  simp;omega
theorem quv {s i:Int}(hs:0≤s∧s<4294967296)(hi:0≤i∧i≤31):∃ c:Nat,bits .andNot .u32 s (bitN i)=(c:Int)∧∀ j,c.testBit j=(s.toNat.testBit j && !decide (i.toNat=j)):=by
 obtain⟨s,rfl⟩:=Int.eq_ofNat_of_zero_le hs.1
 unfold bitN
 rw[if_pos hi]
 obtain⟨c,e,h⟩:=u32_not (a:=s) (b:=2 ^ i.toNat) (by omega) (q41 hi).2
 exact⟨c,e,fun j=>by rw[h,Nat.testBit_two_pow];rfl⟩
theorem quw {a c k:Nat}(hk:a.testBit k=true)(h:∀ j,c.testBit j=(a.testBit j && !decide (k=j))):c<a:=by
 have e:a &&& c=c:=Nat.eq_of_testBit_eq fun j=>by
  rw[Nat.testBit_and,h]
  cases a.testBit j<;>simp
 have h1:c≤a:=by
  rw[← e];exact Nat.and_le_left
 have h2:c≠a:=fun e=>by
  have:=h k
  rw[e,hk] at this
  simp at this
 omega
theorem ctz_bit {s:Nat}(h0:s≠0)(h:s<4294967296):s.testBit (Lib.ctz 32 s)=true∧Lib.ctz 32 s<32:=by
 obtain⟨e,hk⟩:=Lib.lowest_bit 32 s h0 h
 refine⟨?_,hk⟩
 have:=congrArg (fun n:Nat=>n.testBit (Lib.ctz 32 s)) e
 simp only[Nat.testBit_and,Nat.testBit_two_pow_self] at this
 simp only[Bool.and_eq_true] at this
 exact this.1
theorem shl_eq {i:Int}(h:0≤i∧i≤31):(1:Int)*2 ^ min i.toNat IntKind.u32.bits=((2 ^ i.toNat:Nat):Int):=by
 rw[show min i.toNat IntKind.u32.bits=i.toNat by simp[IntKind.bits];omega];simp
theorem shl_lt {i:Int}(h:0≤i∧i≤31):0≤(1:Int)*2 ^ min i.toNat IntKind.u32.bits∧(1:Int)*2 ^ min i.toNat IntKind.u32.bits<4294967296:=by
 rw[shl_eq h];have:=q41 h;omega
theorem fdiv_24 {x:Int}(h:0≤x∧x<4294967296):0≤x.fdiv ((2:Int) ^ min (Int.toNat 24) IntKind.u32.bits)∧x.fdiv ((2:Int) ^ min (Int.toNat 24) IntKind.u32.bits)<256:=by
 have e:((2:Int) ^ min (Int.toNat 24) IntKind.u32.bits)=16777216:=by decide
 rw[e,Int.fdiv_eq_ediv_of_nonneg _ (by omega)]
 omega
theorem q2C (x:Int):0≤bits .and .u32 x 255∧bits .and .u32 x 255<256:=by
 have e:bits .and .u32 x 255=IntKind.u32.wrap ((BitVec.ofInt 32 x &&& BitVec.ofInt 32 255).toNat:Int):=rfl
 have h:(BitVec.ofInt 32 x &&& BitVec.ofInt 32 255).toNat≤255:=by
  rw[BitVec.toNat_and];exact Nat.and_le_right
 rw[e,uwrap .u32 rfl _ (by show _<4294967296;omega)]
 omega
def FA (P:Nat→Prop)(n:Int):Prop:=∀ k:Nat,(k:Int)<n→P k
theorem FA.zero {P:Nat→Prop}:FA P 0:=fun k h=>absurd h (by omega)
theorem FA.succ {P:Nat→Prop}{n m:Int}(h:FA P n)(g:0≤n)(e:m=n+1)(p:P n.toNat):FA P m:=fun k hk=>by
 by_cases e2:(k:Int)=n
 ·
  subst e2;simpa using p
 ·
  exact h k (by omega)
def ap (s:SiteT)(a b:Nat):Bool:=hb ((s.apart.getD a 0).toNat:Int) (b:Int)
def bt (s:SiteT)(a b:Nat):Int:=(s.between.getD a (dflt 7)).getD b 0
def q0i (s:SiteT)(a b:Nat):Prop:=ap s a b=ap s b a∧(ap s a b=true→a≠b∧(s.groups.getD a (dflt 17)).yellowf≤bt s a b∧bt s a b≤1048576)∧(ap s a b=false→bt s a b=0)
theorem has_ap {s:SiteT}{i j:Int}{b:Bool}(hi:0≤i)(hj:0≤j∧j<32)(e:b=(decide (0≤j)&&decide (j≤31)&&hb ((s.apart.getD i.toNat 0).toNat:Int) j)):b=ap s i.toNat j.toNat:=by
 rw[e,decide_eq_true hj.1,decide_eq_true (show j≤31 by omega)]
 unfold ap
 rw[Int.toNat_of_nonneg hj.1];rfl
theorem q8x {s:SiteT} {i j n:Int} {x y:Bool} (hi:0≤i∧i<32) (hj:0≤j∧j<32) (e1:x=(decide (0≤j)&&decide (j≤31)&&hb ((s.apart.getD i.toNat 0).toNat:Int) j)) (e2:y=(decide (0≤i)&&decide (i≤31)&&hb ((s.apart.getD j.toNat 0).toNat:Int) i))
  (en:n=(s.between.getD i.toNat (dflt 7)).getD j.toNat 0) (h1:¬¬ x=y) (h2:x=true→¬ i=j∧(s.groups.getD i.toNat (dflt 17)).yellowf≤n∧n≤1048576) (h4:¬ x=true→n=0):q0i s i.toNat j.toNat:=by
 have f1:=has_ap (s:=s) hi.1 hj e1
 have f2:=has_ap (s:=s) hj.1 hi e2
 rw[en] at h2 h4
 refine⟨by rw[← f1,← f2];exact Classical.not_not.1 h1,fun h=>?_,fun h=>?_⟩
 ·
  obtain⟨g1,g2⟩:=h2 (f1.trans h)
  exact⟨by omega,g2⟩
 ·
  exact h4 (by rw[f1,h];simp)
theorem qdd (x:UInt32):0≤(x.toNat:Int)∧(x.toNat:Int)<4294967296:=⟨by omega,by have:=x.toNat_lt;omega⟩
theorem and_sub {x:Nat}{g:Int}{n:Nat}(hx:0≤(x:Int)∧(x:Int)<4294967296)(hg:0≤g∧g<4294967296)(h:g<2 ^ n):(0≤bits .and .u32 x g∧bits .and .u32 x g<4294967296)∧bits .and .u32 x g<2 ^ n:=by
 refine⟨q0h ..,?_⟩
 obtain⟨g,rfl⟩:=Int.eq_ofNat_of_zero_le hg.1
 rw[u32_and (by omega) (by omega)]
 have:x &&& g≤g:=Nat.and_le_right
 generalize (2:Int) ^ n=q at h
 omega
theorem q2D {a b:Int}(h:0≤a)(hb:0<b):0≤a.tmod b∧a.tmod b<b:=by
 rw[Int.tmod_eq_emod_of_nonneg h];exact⟨Int.emod_nonneg _ (by omega),Int.emod_lt_of_pos _ hb⟩
theorem fdiv_0 {x:Int}{n:Nat}(hx:0≤x∧x<4294967296)(hn:n≤32)(h:x.fdiv ((2:Int) ^ min ((n:Int).toNat) IntKind.u32.bits)=0):x<2 ^ n:=by
 have e1:min ((n:Int).toNat) IntKind.u32.bits=n:=by simp[IntKind.bits];omega
 rw[e1] at h
 have e:((2:Int) ^ n)=((2 ^ n:Nat):Int):=by simp
 have hp:=Nat.two_pow_pos n
 rw[e] at h ⊢
 generalize 2 ^ n=q at h hp ⊢
 rw[Int.fdiv_eq_ediv_of_nonneg _ (by omega)] at h
 have h2:=Int.emod_lt_of_pos x (show (0:Int)<q by omega)
 have h3:=Int.emod_add_mul_ediv x q
 rw[h] at h3
 omega
theorem q8y (op:BinOp)(x y:Int):0≤bits op .u64 x y∧bits op .u64 x y<18446744073709551616:=by
 obtain⟨c,e,h⟩:=q40 .u64 rfl op x y
 have h:c<18446744073709551616:=h
 rw[e];omega
def smD (k:Nat):Nat:=18446744073709551615 / 128 ^ k
theorem smD_step {n:Int}{k:Nat}(h:0≤n∧n.toNat≤smD k):0≤n.fdiv ((2:Int) ^ min (Int.toNat 7) IntKind.u64.bits)∧(n.fdiv ((2:Int) ^ min (Int.toNat 7) IntKind.u64.bits)).toNat≤smD (k+1)∧n.fdiv ((2:Int) ^ min (Int.toNat 7) IntKind.u64.bits)≤n / 2+0:=by
 have e:((2:Int) ^ min (Int.toNat 7) IntKind.u64.bits)=128:=by decide
 obtain⟨n,rfl⟩:=Int.eq_ofNat_of_zero_le h.1
 have h2:=h.2
 rw[Int.toNat_natCast] at h2
 rw[e,Int.fdiv_eq_ediv_of_nonneg _ (by omega)]
 have e2:smD (k+1)=smD k / 128:=by unfold smD;rw[Nat.pow_succ,Nat.div_div_eq_div_mul]
 have e3:((n:Int) / 128).toNat=n / 128:=by omega
 rw[e2,e3]
 exact⟨by omega,Nat.div_le_div_right h2,by omega⟩
theorem smD_9 {n k:Nat}(h:n≤smD k)(g:127<n):k≤8:=by
 rcases Nat.lt_or_ge k 9 with h1|h1
 ·
  omega
 ·
  have:smD k≤smD 9:=Nat.div_le_div_left (Nat.pow_le_pow_right (by decide) h1) (by decide)
  have e:smD 9=1:=by decide
  omega
theorem smD_0 {n:Int}(h:0≤n∧n<18446744073709551616):0≤n∧n.toNat≤smD 0:=⟨h.1,by
                                                  have e:smD 0=18446744073709551615:=by decide
                                                  omega⟩
def q5N (bl:List (List UInt8))(g:Int):Prop:=∀ x,x∈bl→((x.getD 56 0).toNat:Int)≠g % 256
theorem q42 {α:Type} [BEq α] [LawfulBEq α]:∀ {l m:List α},l.Nodup→(∀ x,x∈l→x∈m)→l.length≤m.length
 | [],m,_,_=>Nat.zero_le _
 |a::l,m,hn,hs=>by
  have hn:=List.nodup_cons.1 hn
  have ha:a∈m:=hs a (List.mem_cons_self ..)
  have h1:=q42 (l:=l) (m:=m.erase a) hn.2 fun x hx=>by
   refine(List.mem_erase_of_ne ?_).2 (hs x (List.mem_cons_of_mem _ hx))
   rintro rfl;exact hn.1 hx
  have h2:=List.length_erase_of_mem ha
  have h3:0<m.length:=List.length_pos_of_mem ha
  simp only[List.length_cons];omega
theorem q8z {bl:List (List UInt8)}(hb:bl.length≤32)(g:Int):∃ q,g<q∧q≤g+33∧q5N bl q:=by
 refine Classical.byContradiction fun hno=>?_
 have hall:∀ q,g<q→q≤g+33→¬ q5N bl q:=fun q h1 h2 h3=>hno ⟨q,h1,h2,h3⟩
 have hmem:∀ x,x∈(List.range 33).map (fun i:Nat=>(g+1+(i:Int)) % 256)→x∈bl.map (fun x=>((x.getD 56 0).toNat:Int)):=fun x hx=>by
  rw[List.mem_map] at hx
  obtain⟨i,hi,rfl⟩:=hx
  rw[List.mem_range] at hi
  have h1:=hall (g+1+i) (by omega) (by omega)
  unfold q5N at h1
  refine Classical.byContradiction fun hn=>h1 fun x hx e=>hn ?_
  rw[List.mem_map]
  exact⟨x,hx,e⟩
 have hnd:((List.range 33).map (fun i:Nat=>(g+1+(i:Int)) % 256)).Nodup:=by
  rw[List.nodup_iff_pairwise_ne,List.pairwise_map]
  refine List.Pairwise.imp_of_mem (R:=fun a b=>a≠b) (fun ha hb hab e=>?_) (List.nodup_iff_pairwise_ne.1 List.nodup_range)
  rw[List.mem_range] at ha hb
  omega
 have:=q42 hnd hmem
 simp at this
 omega
def Sx (g:Int)(bl:List (List UInt8))(r:Int):Prop:=(g<r∧r≤g+33)∧∀ q,g<q→q<r→¬ q5N bl q
theorem sx_0 (g:Int)(bl:List (List UInt8)):Sx g bl (g+1):=⟨by omega,fun q h1 h2=>by omega⟩
theorem sx_step {g r:Int}{bl:List (List UInt8)}(hb:bl.length≤32)(h:Sx g bl r)(hf:¬ q5N bl r):Sx g bl (r+1):=by
 have hle:∀ q,g<q→q<r+1→¬ q5N bl q:=fun q h1 h2=>by
  by_cases c:q=r
  ·
   subst c;exact hf
  ·
   exact h.2 q h1 (by omega)
 refine⟨?_,hle⟩
 obtain⟨q,q1,q2,q3⟩:=q8z hb g
 have:=h.1
 rcases Int.lt_or_le q (r+1) with c|c
 ·
  exact absurd q3 (hle q q1 c)
 ·
  omega
def catL (l:List (List UInt8))(i:Nat):List UInt8:=(l.take i).flatten
theorem qgj {l:List (List UInt8)}{i:Nat}(h:i<l.length):catL l (i+1)=catL l i++l.getD i (dflt 6):=by
 unfold catL
 rw[List.take_add_one,List.getElem?_eq_getElem h,List.flatten_append,List.getD_eq_getElem?_getD,List.getElem?_eq_getElem h]
 simp
theorem qh4 {l:List (List UInt8)}(i:Nat):(catL l i).length≤l.flatten.length:=by
 unfold catL
 have:=congrArg List.length (congrArg List.flatten (List.take_append_drop i l))
 rw[List.flatten_append,List.length_append] at this
 omega
theorem q43 {l:List (List UInt8)}{i:Nat}(h:l.length≤i):catL l i=l.flatten:=by
 unfold catL;rw[List.take_of_length_le h]
theorem qdH {α:Type}{P:α→Prop}{z z':List α}{a:α}(h:∀ x∈z,P x)(e:z'=List.take z.length z++[a])(ha:P a):∀ x∈z',P x:=by
 subst e;rw[List.take_length]
 intro x hx
 rcases List.mem_append.1 hx with g|g
 ·
  exact h x g
 ·
  simp only[List.mem_singleton] at g;subst g;exact ha
theorem q80 {z t y:List UInt8}(ht:z.take t.length=t)(h:t.length+y.length≤z.length):(List.take t.length z++List.take y.length y++List.drop (t.length+y.length) z).take (t++y).length=t++y∧(List.take t.length z++List.take y.length y++List.drop (t.length+y.length) z).length=z.length:=by
 rw[ht,List.take_length]
 refine⟨by rw[List.take_append_of_le_length (Nat.le_refl _),List.take_length],?_⟩
 simp;omega
theorem wb_eq (n:Int):wb n=n % 256:=by
 simp only[wb,IntKind.wrap,IntKind.signed,IntKind.bits,Bool.false_and,Bool.false_eq_true,if_false];omega
end Go.Wp
