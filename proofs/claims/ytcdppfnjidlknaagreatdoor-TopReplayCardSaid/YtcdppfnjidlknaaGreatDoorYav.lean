import Derived.Test.YtcdppfnjidlknaaGreatDoorYau
set_option linter.unusedVariables false
set_option linter.unusedSimpArgs false
namespace Go.Eng
open Go
def W {α:Type}(o:Option α)(Q:α→Prop):Prop:=∃ r,o=some r∧Q r
theorem W.mono {α:Type}{o:Option α}{P Q:α→Prop}(h:W o P)(k:∀ r,P r→Q r):W o Q:=by
 obtain⟨r,e,p⟩:=h;exact⟨r,e,k r p⟩
theorem qaa {α:Type}{a:α}{Q:α→Prop}(h:Q a):W (some a) Q:=⟨a,rfl,h⟩
theorem W_eq {α:Type}{o:Option α}{a:α}(h:W o fun r=>r=a):o=some a:=by
 obtain⟨r,e,p⟩:=h;rw[e,p]
class BP (c:Bool) (p:outParam Prop):Prop where
 iff:c=true↔p
instance (priority:=low) bp0 (c:Bool):BP c (c=true):=⟨Iff.rfl⟩
instance bpD (p:Prop) [Decidable p]:BP (decide p) p:=⟨decide_eq_true_iff⟩
instance bpE {α:Type} [BEq α] [LawfulBEq α] (a b:α):BP (a==b) (a=b):=⟨beq_iff_eq⟩
instance bpN {α:Type} [BEq α] [LawfulBEq α] (a b:α):BP (a != b) (a≠b):=⟨bne_iff_ne⟩
instance bpNot (c:Bool) (p:Prop) [h:BP c p]:BP (!c) (¬ p):=⟨by rw[← h.iff];simp⟩
instance bpOr (a b:Bool) (p q:Prop) [h:BP a p] [h':BP b q]:BP (bif a then true else b) (p∨q):=⟨by rw[← h.iff,← h'.iff];cases a<;>simp⟩
instance bpAnd (a b:Bool) (p q:Prop) [h:BP a p] [h':BP b q]:BP (bif a then b else false) (p∧q):=⟨by rw[← h.iff,← h'.iff];cases a<;>simp⟩
instance bpA (a b:Bool) (p q:Prop) [h:BP a p] [h':BP b q]:BP (a&&b) (p∧q):=⟨by rw[← h.iff,← h'.iff];simp⟩
instance bpO (a b:Bool) (p q:Prop) [h:BP a p] [h':BP b q]:BP (a||b) (p∨q):=⟨by rw[← h.iff,← h'.iff];simp⟩
theorem qaf {α:Type}{b:Bool}{p:Prop} [h:BP b p]{q:Option α}{Q:α→Prop}(hb:p)(g:W q Q):W (req b q) Q:=by
 rw[show b=true from h.iff.2 hb];exact g
theorem W_if {α:Type}{b:Bool}{p:Prop} [e:BP b p]{x y:Option α}{Q:α→Prop}(h:p→W x Q)(g:¬ p→W y Q):W (bif b then x else y) Q:=by
 cases hb:b with
 |true=>exact h (e.iff.1 hb)
 |false=>exact g fun hp=>by rw[e.iff.2 hp] at hb;cases hb
theorem qac {α β:Type}{e:α}{k:α→Option β}{Q:β→Prop}(h:∀ x,x=e→W (k x) Q):W (DOps.ev.letv e k) Q:=h e rfl
theorem qab {α β:Type}{o:Option α}{k:α→Option β}{P:α→Prop}{Q:β→Prop}(h:W o P)(g:∀ x,P x→W (k x) Q):W (DOps.ev.bind o k) Q:=by
 obtain⟨r,e,p⟩:=h;subst e;exact g r p
theorem qb5 {α β:Type}{o:Option α}{k:α→Option β}{a:α}{Q:β→Prop}(h:o=some a)(g:W (k a) Q):W (DOps.ev.bind o k) Q:=by
 subst h;exact g
theorem W_sm {α:Type} {a:Option α} {l:List (Option α)} {t:Tr} {Q:α→Prop} (h:W a Q) (ht:t.fst=0:=by rfl):W (sm DOps.ev (a::l) t) Q:=by
 rw[smE ht];exact h
def Jn {α β:Type}(J:α→Option β)(P:α→Prop)(Q:β→Prop):Prop:=∀ x,P x→W (J x) Q
theorem Jn.use {α β:Type}{J:α→Option β}{P:α→Prop}{Q:β→Prop}(h:Jn J P Q)(x:α)(p:P x):W (J x) Q:=h x p
theorem qa3 {α β:Type}{k:(α→Option β)→Option β}{J:α→Option β}{Q:β→Prop}(P:α→Prop)(g:∀ K:α→Option β,Jn K P Q→W (k K) Q)(h:∀ x,P x→W (J x) Q):W (DOps.ev.join k J) Q:=g J h
theorem W_any {α β:Type} [Inhabited α]{k:α→Option β}{r:β}(h:∀ g,W (k g) (fun x=>x=r)):W (DOps.ev.any k) (fun x=>x=r) :=
 ⟨r,anyO_of default fun g=>W_eq (h g),rfl⟩
theorem W_fixN {V α:Type} {F:(V→Option α)→V→Option α} {Q:α→Prop} (I:V→Prop) (m:V→Nat)
  (step:∀ rec v,I v→(∀ v',I v'→m v'<m v→W (rec v') Q)→W (F rec v) Q) :
  ∀ n v,I v→m v<n→W (fixN F n v) Q
 |0,v,_,h=>absurd h (Nat.not_lt_zero _)
 |n+1,v,i,h=>step (fixN F n) v i fun v' i' h'=>W_fixN I m step n v' i' (by omega)
def Rec {V α:Type}(rec:V→Option α)(I:V→Prop)(m:V→Nat)(v:V)(Q:α→Prop):Prop:=∀ v',I v'→m v'<m v→W (rec v') Q
theorem Rec.use {V α:Type}{rec:V→Option α}{I:V→Prop}{m:V→Nat}{v:V}{Q:α→Prop}(h:Rec rec I m v Q)(v':V)(i:I v')(l:m v'<m v):W (rec v') Q:=h v' i l
theorem qaj {V α:Type} {v:V} {F:(V→Option α)→V→Option α} {Q:α→Prop} (I:V→Prop) (m:V→Nat) (i:I v) (b:m v<NN)
  (step:∀ rec v,I v→Rec rec I m v Q→W (F rec v) Q):W (DOps.ev.fix v F) Q:=W_fixN I m step NN v i b
theorem w64 {n:Int}(h:-9223372036854775808≤n∧n<9223372036854775808):IntKind.i64.wrap n=n:=by
 have e:(2:Int) ^ 64=18446744073709551616:=by decide
 have e':(2:Int) ^ (64-1)=9223372036854775808:=by decide
 simp only[IntKind.wrap,IntKind.signed,IntKind.bits,Bool.true_and,e,e'];split<;>rename_i c<;>simp only[decide_eq_true_eq,ge_iff_le] at c<;>omega
theorem w32 {n:Int}(h:0≤n∧n<4294967296):IntKind.u32.wrap n=n:=by
 simp only[IntKind.wrap,IntKind.signed,IntKind.bits,Bool.false_and,Bool.false_eq_true,if_false];omega
theorem wu64 {n:Int}(h:0≤n∧n<18446744073709551616):IntKind.u64.wrap n=n:=by
 simp only[IntKind.wrap,IntKind.signed,IntKind.bits,Bool.false_and,Bool.false_eq_true,if_false];omega
theorem w8 {n:Int}(h:0≤n∧n<256):IntKind.u8.wrap n=n:=by
 simp only[IntKind.wrap,IntKind.signed,IntKind.bits,Bool.false_and,Bool.false_eq_true,if_false];omega
section
variable {R : Type} {Q : R → Prop} {k : Int → Option R}
theorem qah {n:Int}(b:-9223372036854775809≤n∧n<9223372036854775807)(h:∀ x,x=n+1→W (k x) Q):W (inc DOps.ev n k) Q:=h _ (w64 (by omega))
theorem W_wi {e:Int}(b:-9223372036854775808≤e∧e<9223372036854775808)(h:∀ x,x=e→W (k x) Q):W (DOps.ev.letv (wi e) k) Q:=h _ (w64 b)
theorem W_wq {e:Int}(b:0≤e∧e<4294967296)(h:∀ x,x=e→W (k x) Q):W (DOps.ev.letv (wq e) k) Q:=h _ (w32 b)
theorem W_wu {e:Int}(b:0≤e∧e<18446744073709551616)(h:∀ x,x=e→W (k x) Q):W (DOps.ev.letv (wu e) k) Q:=h _ (wu64 b)
theorem W_wb {e:Int}(b:0≤e∧e<256)(h:∀ x,x=e→W (k x) Q):W (DOps.ev.letv (wb e) k) Q:=h _ (w8 b)
theorem W_rb {n:Int}{l:Nat}{q:Option R}(h:0≤n∧n<l)(g:W q Q):W (rb n l q) Q:=qaf h.1 (qaf h.2 g)
theorem qwK {n:Int}{b:Nat}{q:Option R}(h:0≤n∧n*(b:Int)≤140737488355328)(g:W q Q):W (mks n b q) Q:=qaf ⟨h.1,Int.le_refl _,h.2⟩ g
theorem W_rm {n b:Nat}{q:Option R}(h:n*b≤140737488355328)(g:W q Q):W (rm n b q) Q:=qaf h g
theorem W_rs {a b:Nat}{q:Option R}(h:a=b)(g:W q Q):W (rs a b q) Q:=by
 subst h;unfold rs sameN;rw[Nat.beq_refl];exact g
theorem W_ix {α:Type}{z:List α}{n:Int}{d:α}{k:α→Option R}(h:0≤n∧n<z.length)(g:∀ x,x=z.getD n.toNat d→W (k x) Q):W (ix DOps.ev z n d k) Q:=qaf h.1 (qaf h.2 (g _ rfl))
end
theorem qbK {α:Type}{l:List α}{d:α}{k:Nat}(h:k<l.length):l.getD k d=l[k]:=by
 simp[List.getD,List.getElem?_eq_getElem h]
theorem qaq {α:Type}{P:α→Prop}{l:List α}(h:∀ x∈l,P x){n:Int}{d:α}(g:0≤n∧n<l.length):P (l.getD n.toNat d):=by
 rw[qbK (by omega)];exact h _ (List.getElem_mem _)
theorem qb6 {α:Type}{l:List α}{n:Int}{d:α}(g:0≤n∧n<l.length):l.getD n.toNat d∈l:=qaq (P:=(·∈l)) (fun _ h=>h) g
def Upto {α:Type}(P:α→Prop)(l:List α)(d:α)(n:Int):Prop:=∀ k:Nat,(k:Int)<n→P (l.getD k d)
theorem Upto.zero {α:Type}{P:α→Prop}{l:List α}{d:α}:Upto P l d 0:=fun k h=>absurd h (by omega)
theorem Upto.succ {α:Type}{P:α→Prop}{l:List α}{d:α}{n m:Int}(h:Upto P l d n)(g:0≤n)(e:m=n+1)(p:P (l.getD n.toNat d)):Upto P l d m:=by
 intro k hk
 by_cases e:(k:Int)=n
 ·
  subst e;simpa using p
 ·
  exact h k (by omega)
theorem Upto.all {α:Type}{P:α→Prop}{l:List α}{d:α}{n:Int}(h:Upto P l d n)(g:(l.length:Int)≤n):∀ x∈l,P x:=by
 intro x hx
 obtain⟨k,hk,e⟩:=List.getElem_of_mem hx
 have:=h k (by omega)
 rw[qbK hk,e] at this;exact this
end Go.Eng
