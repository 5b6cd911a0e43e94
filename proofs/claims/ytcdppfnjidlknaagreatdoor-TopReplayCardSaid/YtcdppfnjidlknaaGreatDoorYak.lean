import Derived.Test.YtcdppfnjidlknaaGreatDoorYaj
set_option linter.unusedVariables false
set_option linter.unusedSimpArgs false
namespace Go.Eng
open Go
abbrev Tab:=List (Nat×Spec)
def TabOk (P:Program):Tab→Prop
 | []=>True
 |(j,s)::r=>qbe P j s∧TabOk P r
def s1 (f:Int→Int)(B:Int→Prop):Spec:={ro:=true,own:=[],run:=fun args _ k=>match args with
 | [.int .i64 a]=>inK .i64 a∧∀ r:Int,r=f a→B r→k (.int .i64 r) [] []
 |_=>False}
def s2 (f:Int→Int→Int)(B:Int→Prop):Spec:={ro:=true,own:=[],run:=fun args _ k=>match args with
 | [.int .i64 a,.int .i64 b]=>inK .i64 a∧inK .i64 b∧∀ r:Int,r=f a b→B r→k (.int .i64 r) [] []
 |_=>False}
def s3 (f:Int→Int→Int→Int)(B:Int→Prop):Spec:={ro:=true,own:=[],run:=fun args _ k=>match args with
 | [.int .i64 a,.int .i64 b,.int .i64 c]=>inK .i64 a∧inK .i64 b∧inK .i64 c∧∀ r:Int,r=f a b c→B r→k (.int .i64 r) [] []
 |_=>False}
end Go.Eng
namespace Go.Eng
open Go
end Go.Eng
namespace Go.Eng
open Go
def fzK (k:AV→List (Option Blk)→List Blk→Prop)(r:AV)(bs:List (Option Blk))(F:List Blk):Prop:=match F with
 | []=>k r [] []
 | [.row c xs]=>k (frz 0 c xs r) [] []
 |_=>False
theorem qbe.fz {P:Program}{f:FuncId}{s t:Spec}(h:qbe P f s)(hro:s.ro=false)(hro2:t.ro=false)(hown:s.own=[])(hown2:t.own=[])(ht:∀ args k,t.run args [] k→s.run args [] (fzK k)):qbe P f t:=by
 refine qcO.h ?_ hown2
 intro w im vals args k o a next Q him hKc hlen hrep hrun hnext
 refine h.a hown w im vals args (fzK k) o a next Q him hKc hlen hrep (ht args k hrun) fun v w' im' ρ' r F hk hres=>?_
 unfold fzK at hk
 split at hk
 ·
  rw[hro] at hres
  refine hnext v w' im' ρ' r [] hk ?_
  rw[hro2];exact hres
 ·
  rename_i F c xs
  rw[hro] at hres
  obtain⟨ob,h1,hB⟩:=hres.blk 0 _ rfl
  have hB0:BRep w' im' qai ob (.row c xs):=hB
  refine hnext v w' (fun b=>im' b∨ob.1=some b) qai _ [] hk ?_
  rw[hro2]
  exact{
      below:=hres.below
      imold:=fun e b hb=>.inl (hres.imold e b hb)
      imnew:=fun b hb=>by
       rcases hb with hb|hb
       ·
        exact hres.imnew b hb
       ·
        obtain⟨o1,o2⟩:=ob
        dsimp only at hb
        subst hb
        exact .inr ⟨hres.fresh 0 b _ h1,hB.lt rfl⟩
      dom:=fun _ _=>rfl
      blk:=fun j b hj=>by simp at hj
      inj:=fun _ _ _ _ _ hi=>by simp[qai] at hi
      notim:=fun _ _ _ hi=>by simp[qai] at hi
      fresh:=fun _ _ _ hi=>by simp[qai] at hi
      rep:=hres.rep.frz 0 hB0 (fun _ h=>.inl h) (fun _ h=>.inr h) (fun x hx=>by rw[h1] at hx;exact(Option.some.inj hx).symm) (ρ':=qai) (fun j x hj hx=>by
       have:ρ' j=none:=hres.dom j (by
        cases j with
        |zero=>exact absurd rfl hj
        |succ j=>rfl)
       rw[this] at hx;cases hx)}
 ·
  exact hk.elim
end Go.Eng
namespace Go.Eng
open Go
end Go.Eng
namespace Go.Eng
open Go
end Go.Eng
namespace Go.Eng
open Go
theorem wp_mono {P:Program}{Q R:Exit→Act→World→Prop}{c:Code}{a:Act}{w:World}(h:c.wp P Q a w)(hq:∀ e a w,Q e a w→R e a w):c.wp P R a w :=
 fun b k cs=>let ⟨e,a',w',q,r⟩:=h b k cs;⟨e,a',w',hq _ _ _ q,r⟩
section
variable {w0 : World} {bor : Bor} {im0 : Nat → Prop}
end
theorem SA.trans {w0 w w':World}{im0 im im':Nat→Prop} {ρ ρ':Ids} {σ σ':AS}{a a':Act}(h:SA w0 qiH im0 im ρ σ a w)(h':SA w (borOf ρ) im im' ρ' σ' a' w'):SA w0 qiH im0 im' ρ' σ' a' w':=by
 have hmem:∀ b,(borOf ρ).mem b→w0.heap.size≤b:=fun b hb=>by
  obtain⟨i,m,hi⟩:=hb
  exact(h.st.own i b m hi).resolve_right fun e=>e
 exact⟨{
     defers:=h'.st.defers
     len:=h'.st.len
     slot:=h'.st.slot
     dom:=h'.st.dom
     blk:=h'.st.blk
     inj:=h'.st.inj
     notim:=h'.st.notim
     imlt:=h'.st.imlt
     imold:=fun b hb=>h'.st.imold b (h.st.imold b hb)
     imnew:=fun b hb=>by
      rcases h'.st.imnew b hb with h1|h1|h1
      ·
       exact h.st.imnew b h1
      ·
       exact .inr (.inl (Nat.le_trans h.st.size h1))
      ·
       exact .inr (.inl (hmem b h1))
     own:=fun i b m hi=>by
      rcases h'.st.own i b m hi with h1|h1
      ·
       exact .inl (Nat.le_trans h.st.size h1)
      ·
       exact .inl (hmem b h1)
     pin:=fun i x hlt hi=>h.st.pin i x hlt (h'.st.pin i x hlt hi)
     shp:=fun b hb=>hb.elim
     blt:=fun b hb=>hb.elim
     os:=h'.st.os.trans h.st.os
     tape:=h'.st.tape.trans h.st.tape
     output:=h'.st.output.trans h.st.output
     size:=Nat.le_trans h.st.size h'.st.size
     frame:=fun b hb hn=>(h'.st.frame b (Nat.lt_of_lt_of_le hb h.st.size) (fun e=>by have:=hmem b e;omega)).trans (h.st.frame b hb hn)},h'.uniq⟩
def TabOkN (n:Nat)(P:Program):Tab→Prop
 | []=>True
 |(j,s)::r=>qbD n P j s∧TabOkN n P r
theorem TabOk.n {P:Program}(n:Nat):∀ {T:Tab},TabOk P T→TabOkN n P T
 | [],_=>trivial
 |(_,_)::_,h=>⟨h.1.n n,TabOk.n n h.2⟩
end Go.Eng
