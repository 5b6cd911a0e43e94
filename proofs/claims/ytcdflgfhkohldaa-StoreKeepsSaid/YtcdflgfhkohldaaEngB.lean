import Derived.Test.YtcdflgfhkohldaaEngA
namespace Go.Eng
open Go
set_option linter.unusedVariables false
set_option linter.unusedSimpArgs false
inductive Blk where
  | cells (cs : List AV)
  | row (c : Nat) (xs : List (ty c))
abbrev Locs := List (Nat × Blk)
def lget : Locs → Nat → Option Blk
  | [], _ => none
  | (j, b) :: r, i => match Nat.beq j i with
    | true => some b
    | false => lget r i
def lset : Locs → Nat → Blk → Locs
  | [], _, _ => []
  | (j, b) :: r, i, x => match Nat.beq j i with
    | true => (j, x) :: r
    | false => (j, b) :: lset r i x
def ldel : Locs → Nat → Locs
  | [], _ => []
  | (j, b) :: r, i => match Nat.beq j i with
    | true => r
    | false => (j, b) :: ldel r i
structure AS where
  slots : List AV
  gs : List (Nat × Nat × Bool)
  locs : Locs
def gget : List (Nat × Nat × Bool) → Nat → Option (Nat × Bool)
  | [], _ => none
  | (t, g, b) :: r, i => match Nat.beq t i with
    | true => some (g, b)
    | false => gget r i
def kindEq : IntKind → IntKind → Bool
  | .i8, .i8 | .i16, .i16 | .i32, .i32 | .i64, .i64 | .u8, .u8 | .u16, .u16 | .u32, .u32 | .u64, .u64 => true
  | _, _ => false
def ofCell : Value → AV
  | .int k n => bif decide (k.min ≤ n) && decide (n ≤ k.max) then .int k n else .dead
  | .bool b => .bool b
  | .string s => bif Nat.ble s.size maxLen then .str s else .dead
  | .pointer none => .nilptr
  | .slice none 0 0 => .nilsl
  | .nilFunc => .nilfn
  | _ => .dead
def ofVal : Value → AV
  | .agg cs => bif cs.toList.all Value.oneCell' then .agg (cs.toList.map ofCell) else .dead
  | v => ofCell v
abbrev Gd := Option (Nat × Bool)
def beqB : Bool → Bool → Bool
  | true, b => b
  | false, b => !b
def AS.slot (σ : AS) (g : Gd) (t : Nat) : AV :=
  match gget σ.gs t with
  | none => nth σ.slots t
  | some (tc, w) => match g with
    | none => .dead
    | some (tc', w') => match Nat.beq tc tc' && beqB w w' with
      | true => nth σ.slots t
      | false => .dead
def AS.ev (σ : AS) (g : Gd) : Operand → AV
  | .tmp t => σ.slot g t
  | .const v => ofVal v
  | .func f => .fn (.func f) [] []
  | .global _ => .dead
structure DP where
  p : Prop
  d : Decidable p
abbrev dp (p : Prop) [d : Decidable p] : DP := ⟨p, d⟩
inductive PR where
  | ok (pre : List DP) (v : AV)
  | bad
def PR.bind1 (o : Option AV) (pre : List DP) : PR := match o with
  | some v => .ok pre v
  | none => .bad
def intBin (op : BinOp) (k : IntKind) (x y : Int) : PR :=
  match op with
  | .add => .ok [] (.int k (k.wrap (x + y)))
  | .sub => .ok [] (.int k (k.wrap (x - y)))
  | .mul => .ok [] (.int k (k.wrap (x * y)))
  | .quo => .ok [dp (y ≠ 0)] (.int k (k.wrap (x.tdiv y)))
  | .rem => .ok [dp (y ≠ 0)] (.int k (x.tmod y))
  | .and => .ok [] (.int k (bits .and k x y))
  | .or => .ok [] (.int k (bits .or k x y))
  | .xor => .ok [] (.int k (bits .xor k x y))
  | .andNot => .ok [] (.int k (bits .andNot k x y))
  | .eql => .ok [] (.bool (x == y))
  | .neq => .ok [] (.bool (x != y))
  | .lss => .ok [] (.bool (decide (x < y)))
  | .leq => .ok [] (.bool (decide (x ≤ y)))
  | .gtr => .ok [] (.bool (decide (x > y)))
  | .geq => .ok [] (.bool (decide (x ≥ y)))
  | _ => .bad
def shiftAV (op : BinOp) (k : IntKind) (x y : Int) : PR :=
  match op with
  | .shl => .ok [dp (0 ≤ y)] (.int k (k.wrap (x * 2 ^ (min y.toNat k.bits))))
  | .shr => .ok [dp (0 ≤ y)] (.int k (x.fdiv (2 ^ (min y.toNat k.bits))))
  | _ => .bad
def isShift : BinOp → Bool
  | .shl | .shr => true
  | _ => false
def eqF (P : Program) (xs ys : List AV) : List Field → Option Bool
  | [] => some true
  | f :: r => match decide (f.name ≠ "_"), P.underlying f.type, nth xs f.offset, nth ys f.offset, eqF P xs ys r with
    | true, some (.int _), .int k a, .int k' b, some c => match kindEq k k' with
      | true => some ((a == b) && c)
      | false => none
    | true, some .bool, .bool a, .bool b, some c => some ((a == b) && c)
    | true, some .string, .str a, .str b, some c => some ((a.data.toList == b.data.toList) && c)
    | _, _, _, _, _ => none
def binAV (P : Program) (op : BinOp) (t : TypeId) (x y : AV) : PR :=
  match x, y with
  | .int k a, .int k' b => match isShift op with
    | true => shiftAV op k a b
    | false => match kindEq k k' with
      | true => intBin op k a b
      | false => .bad
  | .bool a, .bool b => match op, P.underlying t with
    | .eql, some .bool => .ok [] (.bool (a == b))
    | .neq, some .bool => .ok [] (.bool (!(a == b)))
    | _, _ => .bad
  | .str a, .str b => match op with
    | .eql => .ok [] (.bool (a.data.toList == b.data.toList))
    | .neq => .ok [] (.bool (!(a.data.toList == b.data.toList)))
    | _ => .bad
  | .ptr .., .nilptr | .eptr .., .nilptr | .iref .., .nilptr => match op, P.underlying t with
    | .eql, some (.pointer _) => .ok [] (.bool false)
    | .neq, some (.pointer _) => .ok [] (.bool true)
    | _, _ => .bad
  | .nilptr, .nilptr => match op, P.underlying t with
    | .eql, some (.pointer _) => .ok [] (.bool true)
    | .neq, some (.pointer _) => .ok [] (.bool false)
    | _, _ => .bad
  | .nilsl, .nilsl => match op, P.underlying t with
    | .eql, some (.slice _) => .ok [] (.bool true)
    | .neq, some (.slice _) => .ok [] (.bool false)
    | _, _ => .bad
  | .agg xs, .agg ys => match P.underlying t with
    | some (.struct fs) => match !P.stoodInHeld t && !P.eqGuardType P.depth t, eqF P xs ys fs.toList, op with
      | true, some b, .eql => .ok [] (.bool b)
      | true, some b, .neq => .ok [] (.bool (!b))
      | _, _, _ => .bad
    | _ => .bad
  | .anyb, .int .u8 _ => match op with
    | .add => .ok [] .anyb
    | _ => .bad
  | _, _ => .bad
def takeN : List AV → Nat → List AV
  | _, 0 => []
  | [], _ => []
  | a :: r, n + 1 => a :: takeN r n
def dropN : List AV → Nat → List AV
  | r, 0 => r
  | [], _ => []
  | _ :: r, n + 1 => dropN r n
def isAggT (P : Program) (t : TypeId) : Bool :=
  match P.underlying t with
  | some (.struct _) | some (.array _ _) => true
  | _ => false
def aggD : TypeDesc → Bool
  | .struct _ | .array _ _ => true
  | _ => false
def partAV (P : Program) (t : TypeId) (cs : List AV) (off : Nat) : Option AV :=
  match P.info? t, P.underlying t with
  | some i, some d => match aggD d with
    | true => match Nat.ble (off + i.size) cs.length with
      | true => some (.agg (takeN (dropN cs off) i.size))
      | false => none
    | false => match Nat.blt off cs.length with
      | true => some (nth cs off)
      | false => none
  | _, _ => none
def bytesOf (L : Locs) : AV → Option (List UInt8)
  | .nilsl => some []
  | .sl 0 xs => some xs
  | .row 0 i o n => match lget L i with
    | some (.row 0 xs) => some ((xs.drop o).take n)
    | _ => none
  | _ => none
def fieldOf (P : Program) (s : TypeId) (f : Nat) : Option (Nat × TypeId) :=
  match P.underlying s with
  | some (.struct fs) => match fs.toList[f]? with
    | some fd => some (fd.offset, fd.type)
    | none => none
  | _ => none
def sizeT (P : Program) (t : TypeId) : Nat := match P.info? t with
  | some i => i.size
  | none => 0
def elemT (P : Program) (t : TypeId) : Option TypeId := match P.underlying t with
  | some (.slice e) => some e
  | _ => none
def splice (cs : List AV) (off : Nat) (vs : List AV) : List AV := takeN cs off ++ vs ++ dropN cs (off + vs.length)
def cellsAV : AV → List AV
  | .agg l => l
  | .dead | .tup _ | .cond .. | .val _ => []
  | .both (.sl c xs) b => [.both (.sl c xs) b]
  | .both .. => []
  | x => [x]
def fillAV (place : Nat → Option (Nat × Nat)) (cells : List AV) : List (Nat × AV) → Option (List AV)
  | [] => some cells
  | (i, v) :: rest => match place i with
    | none => none
    | some (off, size) => match Nat.beq (cellsAV v).length size && Nat.blt 0 size && Nat.ble (off + size) cells.length with
      | true => fillAV place (splice cells off (cellsAV v)) rest
      | false => none
def zeroAV (P : Program) (t : TypeId) : Option (List AV) :=
  match P.info? t with
  | some i => match i.zero with
    | some v => match ofVal v with
      | .agg l => some l
      | .dead | .tup _ | .cond .. | .val _ | .both .. => none
      | x => some [x]
    | none => none
  | none => none
def infoAll (P : Program) : List Field → Bool
  | [] => true
  | f :: r => (match P.info? f.type with | some _ => true | none => false) && infoAll P r
def buildAV (P : Program) (t : TypeId) (parts : List (Nat × AV)) : Option AV :=
  match zeroAV P t, P.underlying t with
  | some z, some (.struct fs) => match infoAll P fs.toList with
    | true => match fillAV (fun i => (fs.toList.map fun f => (f.offset, sizeT P f.type))[i]?) z parts with
      | some cs => some (.agg cs)
      | none => none
    | false => none
  | some z, some (.array _ e) => match P.info? e with
    | some ie => match fillAV (fun i => some (i * ie.size, ie.size)) z parts with
      | some cs => some (.agg cs)
      | none => none
    | none => none
  | _, _ => none
def toIx : Int → Nat := Int.toNat
def sliceAV (x : AV) (lo hi : Option AV) : PR :=
  match x, lo, hi with
  | .sl c xs, none, none => .ok [] (.sl c xs)
  | .sl c xs, some (.int _ l), none => .ok [dp (0 ≤ l), dp (l ≤ xs.length)] (.sl c (xs.drop l.toNat))
  | .sl c xs, none, some (.int _ h) => .ok [dp (0 ≤ h), dp (h ≤ xs.length)] (.sl c (xs.take h.toNat))
  | .sl c xs, some (.int _ l), some (.int _ h) => .ok [dp (0 ≤ l), dp (l ≤ h), dp (h ≤ xs.length)] (.sl c ((xs.take h.toNat).drop l.toNat))
  | .row c i o n, none, none => .ok [] (.row c i o n)
  | .row c i o n, some (.int _ l), none => .ok [dp (0 ≤ l), dp (l ≤ n)] (.row c i (o + l.toNat) (n - l.toNat))
  | .row c i o n, none, some (.int _ h) => .ok [dp (0 ≤ h), dp (h ≤ n)] (.row c i o h.toNat)
  | .row c i o n, some (.int _ l), some (.int _ h) => .ok [dp (0 ≤ l), dp (l ≤ h), dp (h ≤ n)] (.row c i (o + l.toNat) (h.toNat - l.toNat))
  | .nilsl, none, none => .ok [] .nilsl
  | .nilsl, some (.int _ l), none => .ok [dp (l = 0)] .nilsl
  | .nilsl, none, some (.int _ h) => .ok [dp (h = 0)] .nilsl
  | .nilsl, some (.int _ l), some (.int _ h) => .ok [dp (l = 0), dp (h = 0)] .nilsl
  | _, _, _ => .bad
def loadAV (P : Program) (L : Locs) (t : TypeId) (x : AV) : PR :=
  match x with
  | .ptr i off => match lget L i with
    | some (.cells cs) => .bind1 (partAV P t cs off) []
    | _ => .bad
  | .eptr c i idx off => match lget L i with
    | some (.row c' xs) => match Nat.beq c c' with
      | true => .bind1 (partAV P t (enc c' (xs.getD idx (dflt c'))) off) [dp (idx < xs.length)]
      | false => .bad
    | _ => .bad
  | .iref c x off => .bind1 (partAV P t (enc c x) off) []
  | .wref _ => match P.info? t, P.underlying t with
    | some i, some (.int .u8) => match Nat.beq i.size 1 with
      | true => .ok [] .anyb
      | false => .bad
    | _, _ => .bad
  | _ => .bad
def sizeOk (P : Program) (e : TypeId) (c : Nat) : Bool := match P.info? e with
  | some i => Nat.beq i.size (szOf c) && Nat.blt 0 (szOf c)
  | none => false
def indexAddrAV (P : Program) (L : Locs) (t : TypeId) (x ix : AV) : PR :=
  match ix with
  | .int _ n => match P.underlying t, x with
    | some (.slice e), .sl c xs => match sizeOk P e c with
      | true => .ok [dp (0 ≤ n), dp (n < xs.length)] (.iref c (xs.getD n.toNat (dflt c)) 0)
      | false => .bad
    | some (.slice e), .row c i o len => match sizeOk P e c with
      | true => .ok [dp (0 ≤ n), dp (n < len)] (.eptr c i (o + n.toNat) 0)
      | false => .bad
    | some (.slice e), .wsl nb len => match sizeOk P e 0 with
      | true => .ok [dp (0 ≤ n), dp (n < len)] (.wref nb)
      | false => .bad
    | some (.array len e), .ptr i 0 => match lget L i with
      | some (.row c _) => match sizeOk P e c with
        | true => .ok [dp (0 ≤ n), dp (n < len)] (.eptr c i n.toNat 0)
        | false => .bad
      | some (.cells _) => match Nat.beq (sizeT P e) 0 with
        | true => .bad
        | false => .ok [dp (0 ≤ n), dp (n < len)] (.ptr i (n.toNat * sizeT P e))
      | _ => .bad
    | _, _ => .bad
  | _ => .bad
def strAt (s : ByteArray) (n : Int) : Int := ((s.data.toList.getD n.toNat 0).toNat : Int)
def indexAV (P : Program) (t : TypeId) (x ix : AV) : PR := match ix, x, P.underlying t with
  | .int _ n, .str s, some .string => .ok [dp (0 ≤ n), dp (n < s.size)] (.int .u8 (strAt s n))
  | _, _, _ => .bad
def mm (op : Builtin) (x y : Int) : Int := match op with
  | .min => min x y
  | _ => max x y
def minAV (op : Builtin) : AV → List AV → Option AV
  | a, [] => some a
  | .int k x, .int k' y :: r => match kindEq k k' with
    | true => minAV op (.int k (mm op x y)) r
    | false => none
  | _, _ => none
def nthV (vs : List AV) (i : Nat) : Option AV := match Nat.blt i vs.length with
  | true => some (nth vs i)
  | false => none
def pickAV (c a b : AV) : PR :=
  match c with
  | .bool cb => match a, b with
    | .bool x, .bool y => .ok [] (.bool (bif cb then x else y))
    | .int k x, .int k' y => match kindEq k k' with
      | true => .ok [] (.int k (bif cb then x else y))
      | false => .bad
    | .tup [], y => .ok [dp (cb = false)] y
    | x, .tup [] => .ok [dp (cb = true)] x
    | _, _ => .bad
  | _ => .bad
def AS.pickSlot (σ : AS) (g : Gd) (c : Operand) (w : Bool) (x : Operand) : AV :=
  match x, c with
  | .tmp t, .tmp tc => match gget σ.gs t with
    | some (tc', w') => match Nat.beq tc tc' && beqB w w' with
      | true => nth σ.slots t
      | false => σ.ev g x
    | none => σ.ev g x
  | _, _ => σ.ev g x
def lenAV : TypeDesc → AV → PR
  | .slice _, .sl _ xs => .ok [] (.int .i64 xs.length)
  | .slice _, .row _ _ _ n => .ok [] (.int .i64 n)
  | .slice _, .wsl _ n => .ok [] (.int .i64 n)
  | .slice _, .nilsl => .ok [] (.int .i64 0)
  | .string, .str s => .ok [] (.int .i64 s.size)
  | _, _ => .bad
def convAV (P : Program) (L : Locs) (s d : TypeId) (x : AV) : PR :=
  match P.underlying s, P.underlying d, x with
  | some (.int _), some (.int k), .int _ n => .ok [] (.int k (k.wrap n))
  | some (.slice e), some .string, y => match P.underlying e with
    | some (.int .u8) => match bytesOf L y with
      | some xs => .ok [] (.str ⟨xs.toArray⟩)
      | none => .bad
    | _ => .bad
  | some .string, some .string, .str y => .ok [] (.str y)
  | _, _, _ => .bad
def unAV (op : UnOp) (x : AV) : PR :=
  match op, x with
  | .neg, .int k n => .ok [] (.int k (k.wrap (0 - n)))
  | .xor, .int .u8 n => .ok [] (.int .u8 (bits .xor .u8 255 n))
  | .xor, .int .u32 n => .ok [] (.int .u32 (bits .xor .u32 4294967295 n))
  | .xor, .int .u64 n => .ok [] (.int .u64 (bits .xor .u64 18446744073709551615 n))
  | .xor, .int .i64 n => .ok [] (.int .i64 (bits .xor .i64 (-1) n))
  | .not, .bool b => .ok [] (.bool (!b))
  | _, _ => .bad
def pop (P : Program) (σ : AS) (g : Gd) (o : Oper) : PR :=
  match o.op with
  | .move x | .assign x => .ok [] (σ.ev g x)
  | .pick c a b => pickAV (σ.ev g c) (σ.pickSlot g c true a) (σ.pickSlot g c false b)
  | .build t parts => .bind1 (buildAV P t (parts.toList.map fun p => (p.1, σ.ev g p.2))) []
  | .load t x => loadAV P σ.locs t (σ.ev g x)
  | .nilCheck x => match σ.ev g x with
    | .ptr i o => .ok [] (.ptr i o)
    | .eptr c i n o => .ok [] (.eptr c i n o)
    | .iref c x o => .ok [] (.iref c x o)
    | _ => .bad
  | .binOp op t x y _ => binAV P op t (σ.ev g x) (σ.ev g y)
  | .unOp op _ x => unAV op (σ.ev g x)
  | .convert s d x => convAV P σ.locs s d (σ.ev g x)
  | .slice t x none (some hi) (some mx) => match P.underlying t, σ.ev g x, σ.ev g hi, σ.ev g mx with
    | some (.slice e), .row c i o n, .int _ h, .int _ m => match sizeOk P e c with
      | true => .ok [dp (0 ≤ h), dp (h ≤ m), dp (m ≤ n)] (.row c i o h.toNat)
      | false => .bad
    | _, _, _, _ => .bad
  | .slice t x lo hi none => match P.underlying t, σ.ev g x with
    | some (.slice e), .sl c xs => match sizeOk P e c with
      | true => sliceAV (.sl c xs) (lo.map (σ.ev g)) (hi.map (σ.ev g))
      | false => .bad
    | some (.slice e), .row c i o n => match sizeOk P e c with
      | true => sliceAV (.row c i o n) (lo.map (σ.ev g)) (hi.map (σ.ev g))
      | false => .bad
    | some (.slice e), .nilsl => match P.info? e with
      | some _ => sliceAV .nilsl (lo.map (σ.ev g)) (hi.map (σ.ev g))
      | none => .bad
    | _, _ => .bad
  | .fieldAddr t x f => match fieldOf P t f, σ.ev g x with
    | some (off, ft), .ptr i o => match Nat.beq (sizeT P ft) 0 with
      | true => .bad
      | false => .ok [] (.ptr i (o + off))
    | some (off, ft), .eptr c i n o => match Nat.beq (sizeT P ft) 0 with
      | true => .bad
      | false => .ok [] (.eptr c i n (o + off))
    | some (off, ft), .iref c x o => match Nat.beq (sizeT P ft) 0 with
      | true => .bad
      | false => .ok [] (.iref c x (o + off))
    | _, _ => .bad
  | .field t x f => match fieldOf P t f, σ.ev g x with
    | some (off, ft), .agg cs => .bind1 (partAV P ft cs off) []
    | _, _ => .bad
  | .indexAddr t x ix => indexAddrAV P σ.locs t (σ.ev g x) (σ.ev g ix)
  | .index t x ix => indexAV P t (σ.ev g x) (σ.ev g ix)
  | .extract t i => match σ.ev g t with
    | .tup vs => .bind1 (nthV vs i) []
    | _ => .bad
  | .makeFunc fn first captured => .ok [] (.fn fn (first.toList.map (σ.ev g)) (captured.toList.map (σ.ev g)))
  | .call c => match c.callee, c.args.toList.map (σ.ev g) with
    | .builtin .len, [x] => match (c.argTypes[0]?).bind P.underlying with
      | some d => lenAV d x
      | none => .bad
    | .builtin .min, x :: r => .bind1 (minAV .min x r) []
    | .builtin .max, x :: r => .bind1 (minAV .max x r) []
    | _, _ => .bad
  | _ => .bad
end Go.Eng
