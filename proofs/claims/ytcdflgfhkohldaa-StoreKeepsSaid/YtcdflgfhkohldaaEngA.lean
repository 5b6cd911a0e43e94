import Derived.WalkKit
namespace Go.Eng
open Go
set_option linter.unusedVariables false
set_option linter.unusedSimpArgs false
structure Msg where
  kind : UInt8
  seq : UInt32
  body : List UInt8
structure Put where
  n : Int
  data : List UInt8
structure Plan where
  cycle : Int
  offset : Int
  splits : List Int
structure YMsg where
  nb : Nat
  kind : UInt8
  seq : UInt32
  body : List UInt8
structure YPut where
  nb : Nat
  n : Int
  data : List UInt8
structure YB where
  nb : Nat
  data : List UInt8
structure WB where
  nb : Nat
  n : Nat
def YMsg.old (m : YMsg) : Msg := ⟨m.kind, m.seq, m.body⟩
def YMsg.wild (m : YMsg) : WB := ⟨m.nb, m.body.length⟩
def YPut.old (m : YPut) : Put := ⟨m.n, m.data⟩
def YPut.wild (m : YPut) : WB := ⟨m.nb, m.data.length⟩
@[reducible] def ty : Nat → Type
  | 0 => UInt8
  | 1 => Int
  | 2 => UInt32
  | 3 => UInt64
  | 4 => Bool
  | 5 => ByteArray
  | 6 => List UInt8
  | 7 => List Int
  | 8 => Msg
  | 9 => Put
  | 10 => Plan
  | 11 => List Msg
  | 12 => YMsg
  | 13 => YPut
  | 14 => YB
  | 15 => WB
  | 16 => WB
  | _ => Unit
def dflt : (c : Nat) → ty c
  | 0 => (0 : UInt8) | 1 => (0 : Int) | 2 => (0 : UInt32) | 3 => (0 : UInt64) | 4 => false | 5 => ByteArray.empty | 6 => [] | 7 => []
  | 8 => ⟨0, 0, []⟩ | 9 => ⟨0, []⟩ | 10 => ⟨0, 0, []⟩ | 11 => []
  | 12 => ⟨0, 0, 0, []⟩ | 13 => ⟨0, 0, []⟩ | 14 => ⟨0, []⟩ | 15 => ⟨0, 0⟩ | 16 => ⟨0, 0⟩
  | _ + 17 => ()
def szOf : Nat → Nat
  | 0 => 1 | 1 => 1 | 2 => 1 | 3 => 1 | 4 => 1 | 5 => 1 | 6 => 1 | 7 => 1 | 8 => 3 | 9 => 2 | 10 => 3 | 11 => 1 | 12 => 3 | 13 => 2 | 14 => 1 | 15 => 3 | 16 => 2 | _ => 0
inductive AV where
  | int (k : IntKind) (n : Int)
  | bool (b : Bool)
  | str (s : ByteArray)
  | nilptr | nilsl | nilfn
  | sl (c : Nat) (xs : List (ty c))
  | iref (c : Nat) (x : ty c) (off : Nat)
  | row (c i o n : Nat)
  | ptr (i off : Nat)
  | eptr (c i idx off : Nat)
  | agg (cs : List AV)
  | tup (vs : List AV)
  | fn (f : Fn) (first captured : List AV)
  | dead
  | cond (b want : Bool) (v : AV)
  | val (v : Value)
  | both (a b : AV)
  | wsl (nb n : Nat)
  | wref (nb : Nat)
  | anyb
def enc : (c : Nat) → ty c → List AV
  | 0, x => [.int .u8 (x.toNat : Int)]
  | 1, x => [.int .i64 x]
  | 2, x => [.int .u32 (x.toNat : Int)]
  | 3, x => [.int .u64 (x.toNat : Int)]
  | 4, x => [.bool x]
  | 5, x => [.str x]
  | 6, x => [.sl 0 x]
  | 7, x => [.sl 1 x]
  | 8, x => [.int .u8 (x.kind.toNat : Int), .int .u32 (x.seq.toNat : Int), .sl 0 x.body]
  | 9, x => [.int .i64 x.n, .sl 0 x.data]
  | 10, x => [.int .i64 x.cycle, .int .i64 x.offset, .sl 1 x.splits]
  | 11, x => [.sl 8 x]
  | 12, x => [.int .u8 (x.kind.toNat : Int), .int .u32 (x.seq.toNat : Int), .both (.sl 0 x.body) (.wsl x.nb x.body.length)]
  | 13, x => [.int .i64 x.n, .both (.sl 0 x.data) (.wsl x.nb x.data.length)]
  | 14, x => [.both (.sl 0 x.data) (.wsl x.nb x.data.length)]
  | 15, x => [.dead, .dead, .wsl x.nb x.n]
  | 16, x => [.dead, .wsl x.nb x.n]
  | _ + 17, _ => []
def asBytes : AV → Option (List UInt8)
  | .sl 0 xs => some xs
  | .nilsl => some []
  | _ => none
def asMsgs : AV → Option (List Msg)
  | .sl 8 xs => some xs
  | .nilsl => some []
  | _ => none
def asInts : AV → Option (List Int)
  | .sl 1 xs => some xs
  | .nilsl => some []
  | _ => none
def dec : (c : Nat) → List AV → Option (ty c)
  | 0, [.int .u8 n] => some (UInt8.ofNat n.toNat)
  | 1, [.int .i64 n] => some n
  | 2, [.int .u32 n] => some (UInt32.ofNat n.toNat)
  | 3, [.int .u64 n] => some (UInt64.ofNat n.toNat)
  | 4, [.bool b] => some b
  | 5, [.str s] => some s
  | 6, [a] => asBytes a
  | 7, [a] => asInts a
  | 8, [.int .u8 k, .int .u32 s, a] => match asBytes a with
    | some b => some ⟨UInt8.ofNat k.toNat, UInt32.ofNat s.toNat, b⟩
    | none => none
  | 9, [.int .i64 n, a] => match asBytes a with
    | some b => some ⟨n, b⟩
    | none => none
  | 10, [.int .i64 n, .int .i64 o, a] => match asInts a with
    | some b => some ⟨n, o, b⟩
    | none => none
  | 11, [a] => asMsgs a
  | 12, [.int .u8 k, .int .u32 s, .both (.sl 0 b) (.wsl nb _)] => some ⟨nb, UInt8.ofNat k.toNat, UInt32.ofNat s.toNat, b⟩
  | 13, [.int .i64 n, .both (.sl 0 b) (.wsl nb _)] => some ⟨nb, n, b⟩
  | 14, [.both (.sl 0 b) (.wsl nb _)] => some ⟨nb, b⟩
  | _, _ => none
theorem enc_length : ∀ (c : Nat) (x : ty c), (enc c x).length = szOf c
  | 0, _ | 1, _ | 2, _ | 3, _ | 4, _ | 5, _ | 6, _ | 7, _ | 8, _ | 9, _ | 10, _ | 11, _ | 12, _ | 13, _ | 14, _ | 15, _ | 16, _ => rfl
  | _ + 17, _ => rfl
def nth : List AV → Nat → AV
  | [], _ => .dead
  | a :: _, 0 => a
  | _ :: r, n + 1 => nth r n
def setNth : List AV → Nat → AV → List AV
  | [], _, _ => []
  | _ :: r, 0, x => x :: r
  | a :: r, n + 1, x => a :: setNth r n x
theorem nth_eq : ∀ (l : List AV) (n : Nat), nth l n = (l[n]?).getD .dead
  | [], _ => by simp [nth]
  | _ :: _, 0 => by simp [nth]
  | _ :: r, n + 1 => by simp [nth, nth_eq r n]
theorem setNth_eq : ∀ (l : List AV) (n : Nat) (x : AV), setNth l n x = l.set n x
  | [], _, _ => by simp [setNth]
  | _ :: _, 0, _ => by simp [setNth]
  | _ :: r, n + 1, x => by simp [setNth, setNth_eq r n x]
def kwf (k : IntKind) (n : Int) : Prop := k.min ≤ n ∧ n ≤ k.max
abbrev Ids := Nat → Option (Option Nat × Nat)
def noIds : Ids := fun _ => none
inductive Rep (w : World) (im : Nat → Prop) : Ids → Value → AV → Prop
  | int {ρ k n} (h : kwf k n) : Rep w im ρ (.int k n) (.int k n)
  | bool {ρ b} : Rep w im ρ (.bool b) (.bool b)
  | str {ρ s} (h : s.size ≤ maxLen) : Rep w im ρ (.string s) (.str s)
  | nilptr {ρ} : Rep w im ρ (.pointer none) .nilptr
  | nilsl {ρ} : Rep w im ρ (.slice none 0 0) .nilsl
  | nilfn {ρ} : Rep w im ρ .nilFunc .nilfn
  | sl0 {ρ c} : Rep w im ρ (.slice none 0 0) (.sl c [])
  | emp {ρ c a} : Rep w im ρ (.slice (some a) 0 0) (.sl c [])
  | sl {ρ b off cap c n} {xs : List (ty c)} (hb : im b) (hn : n = xs.length) (hcap : n ≤ cap) (hm : cap ≤ maxLen) (vals : Nat → Nat → Value)
      (hcell : ∀ i j, i < xs.length → j < szOf c → w.cell? ⟨b, off + i * szOf c + j, none⟩ = some (vals i j))
      (hone : ∀ i j, i < xs.length → j < szOf c → (vals i j).oneCell' = true)
      (hrep : ∀ i j x, xs[i]? = some x → j < szOf c → Rep w im noIds (vals i j) (nth (enc c x) j)) :
      Rep w im ρ (.slice (some ⟨b, off, none⟩) n cap) (.sl c xs)
  | iref {ρ b off off' c o} {x : ty c} (hb : im b) (ho : off' = off + o) (vals : Nat → Value)
      (hcell : ∀ j, j < szOf c → w.cell? ⟨b, off + j, none⟩ = some (vals j))
      (hone : ∀ j, j < szOf c → (vals j).oneCell' = true)
      (hrep : ∀ j, j < szOf c → Rep w im noIds (vals j) (nth (enc c x) j)) :
      Rep w im ρ (.pointer (some ⟨b, off', none⟩)) (.iref c x o)
  | row0 {ρ : Ids} {c i} (h : ρ i = some (none, 0)) : Rep w im ρ (.slice none 0 0) (.row c i 0 0)
  | row {ρ : Ids} {c i b o n cap e off m x} (h : ρ i = some (some b, m)) (hle : o + n ≤ m) (ho : off = o * szOf c) (hn : n ≤ cap) (hm : cap ≤ maxLen) (hs : w.shape? b = some (e, (o + cap + x) * szOf c)) :
      Rep w im ρ (.slice (some ⟨b, off, none⟩) n cap) (.row c i o n)
  | rowE {ρ : Ids} {c i o b off cap m} (h : ρ i = some (some b, m)) (ho : 0 < o) (hm : cap ≤ maxLen) : Rep w im ρ (.slice (some ⟨b, off, none⟩) 0 cap) (.row c i o 0)
  | ptr {ρ : Ids} {i b off m} (h : ρ i = some (some b, m)) : Rep w im ρ (.pointer (some ⟨b, off, none⟩)) (.ptr i off)
  | eptr {ρ : Ids} {c i b idx off off' m} (h : ρ i = some (some b, m)) (ho : off' = idx * szOf c + off) : Rep w im ρ (.pointer (some ⟨b, off', none⟩)) (.eptr c i idx off)
  | agg {ρ : Ids} {vs : Array Value} {cs : List AV} (hl : vs.size = cs.length) (hone : ∀ (j : Nat) (v : Value), vs[j]? = some v → v.oneCell' = true)
      (h : ∀ (j : Nat) (v : Value), vs[j]? = some v → Rep w im ρ v (nth cs j)) : Rep w im ρ (.agg vs) (.agg cs)
  | tup {ρ : Ids} {vs : Array Value} {cs : List AV} (hl : vs.size = cs.length) (h : ∀ (j : Nat) (v : Value), vs[j]? = some v → Rep w im ρ v (nth cs j)) : Rep w im ρ (.tuple vs) (.tup cs)
  | fn {ρ : Ids} {f} {vs us : Array Value} {cs ds : List AV} (hl : vs.size = cs.length) (hl' : us.size = ds.length)
      (h : ∀ (j : Nat) (v : Value), vs[j]? = some v → Rep w im ρ v (nth cs j)) (h' : ∀ (j : Nat) (v : Value), us[j]? = some v → Rep w im ρ v (nth ds j)) :
      Rep w im ρ (.func f vs us) (.fn f cs ds)
  | dead {ρ v} : Rep w im ρ v .dead
  | val {ρ v} : Rep w im ρ v (.val v)
  | both {ρ v a b} (h : Rep w im noIds v a) (h' : Rep w im noIds v b) : Rep w im ρ v (.both a b)
  | wsl {ρ nb ad n cap} (hn : n ≤ cap) (hm : cap ≤ maxLen) (h0 : ad = none → n = 0)
      (h : ∀ i, i < n → ∃ b off x, ad = some ⟨b, off, none⟩ ∧ im b ∧ nb ≤ b ∧ kwf .u8 x ∧ w.cell? ⟨b, off + i, none⟩ = some (.int .u8 x) ∧ w.frozen? ⟨b, off + i, none⟩ = false) : Rep w im ρ (.slice ad n cap) (.wsl nb n)
  | wref {ρ nb b off x} (hb : im b) (hn : nb ≤ b) (hx : kwf .u8 x) (hc : w.cell? ⟨b, off, none⟩ = some (.int .u8 x)) (hf : w.frozen? ⟨b, off, none⟩ = false) :
      Rep w im ρ (.pointer (some ⟨b, off, none⟩)) (.wref nb)
  | anyb {ρ x} (h : kwf .u8 x) : Rep w im ρ (.int .u8 x) .anyb
theorem Rep.stableC {w w' : World} {im im' : Nat → Prop} {ρ ρ' : Ids} {v : Value} {a : AV} (h : Rep w im ρ v a)
    (hw : ∀ b o, im b → w'.cell? ⟨b, o, none⟩ = w.cell? ⟨b, o, none⟩) (him : ∀ b, im b → im' b) (hρ : ∀ i x, ρ i = some x → ρ' i = some x)
    (hs : ∀ i b m, ρ i = some (some b, m) → w'.shape? b = w.shape? b)
    (hz : ∀ b o x, im b → w.cell? ⟨b, o, none⟩ = some x → w.frozen? ⟨b, o, none⟩ = false → w'.frozen? ⟨b, o, none⟩ = false) : Rep w' im' ρ' v a := by
  induction h generalizing ρ' with
  | int h => exact .int h
  | bool => exact .bool
  | str h => exact .str h
  | nilptr => exact .nilptr
  | nilsl => exact .nilsl
  | nilfn => exact .nilfn
  | sl0 => exact .sl0
  | emp => exact .emp
  | sl hb hn hcap hm vals hcell hone hrep ih =>
    refine .sl (him _ hb) hn hcap hm vals (fun i j hi hj => ?_) hone (fun i j x hx hj => ih i j x hx hj (ρ' := noIds) (fun _ _ h => h) (fun _ _ _ h => by simp [noIds] at h))
    rw [← hcell i j hi hj]
    exact hw _ _ hb
  | iref hb ho vals hcell hone hrep ih =>
    refine .iref (him _ hb) ho vals (fun j hj => ?_) hone (fun j hj => ih j hj (ρ' := noIds) (fun _ _ h => h) (fun _ _ _ h => by simp [noIds] at h))
    rw [← hcell j hj]
    exact hw _ _ hb
  | row0 h => exact .row0 (hρ _ _ h)
  | row h hle ho hn hm hsh => exact .row (hρ _ _ h) hle ho hn hm ((hs _ _ _ h).trans hsh)
  | rowE h ho hm => exact .rowE (hρ _ _ h) ho hm
  | ptr h => exact .ptr (hρ _ _ h)
  | eptr h ho => exact .eptr (hρ _ _ h) ho
  | agg hl hone h ih => exact .agg hl hone fun j v h1 => ih j v h1 hρ hs
  | tup hl h ih => exact .tup hl fun j v h1 => ih j v h1 hρ hs
  | fn hl hl' h h' ih ih' => exact .fn hl hl' (fun j v h1 => ih j v h1 hρ hs) (fun j v h1 => ih' j v h1 hρ hs)
  | dead => exact .dead
  | val => exact .val
  | both h h' ih ih' => exact .both (ih (ρ' := noIds) (fun _ _ h => h) (fun _ _ _ h => by simp [noIds] at h)) (ih' (ρ' := noIds) (fun _ _ h => h) (fun _ _ _ h => by simp [noIds] at h))
  | wsl hn hm h0 h =>
    refine .wsl hn hm h0 fun i hi => ?_
    obtain ⟨b, off, x, h1, h2, h3, h4, h5, h6⟩ := h i hi
    exact ⟨b, off, x, h1, him _ h2, h3, h4, (hw _ _ h2).trans h5, hz _ _ _ h2 h5 h6⟩
  | wref hb hn hx hc hf => exact .wref (him _ hb) hn hx ((hw _ _ hb).trans hc) (hz _ _ _ hb hc hf)
  | anyb h => exact .anyb h
theorem Rep.stable {w w' : World} {im im' : Nat → Prop} {ρ ρ' : Ids} {v : Value} {a : AV} (h : Rep w im ρ v a)
    (hw : ∀ b, im b → w'.heap[b]? = w.heap[b]?) (him : ∀ b, im b → im' b) (hρ : ∀ i x, ρ i = some x → ρ' i = some x)
    (hs : ∀ i b m, ρ i = some (some b, m) → w'.shape? b = w.shape? b) : Rep w' im' ρ' v a :=
  h.stableC (fun b o hb => World.cell?_of_block (w := w) (hw b hb)) him hρ hs (fun b o x hb _ hf => by
    have e : w'.frozen? ⟨b, o, none⟩ = w.frozen? ⟨b, o, none⟩ := by simp only [World.frozen?, hw b hb]
    rw [e]; exact hf)
theorem Rep.any {w : World} {im : Nat → Prop} {ρ : Ids} {v : Value} {a : AV} (h : Rep w im noIds v a) : Rep w im ρ v a :=
  h.stable (fun _ _ => rfl) (fun _ h => h) (fun _ _ h => by simp [noIds] at h) (fun _ _ _ h => by simp [noIds] at h)
end Go.Eng
