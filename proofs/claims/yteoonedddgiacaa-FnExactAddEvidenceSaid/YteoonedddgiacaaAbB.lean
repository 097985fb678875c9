/- The abstract operations: the translated code with its types told in place, and what each operation gives on values by content and own objects. -/
import Derived.Test.YteoonedddgiacaaAbA
namespace Go.Proofs.Yteoonedddgiacaa.Ab
set_option linter.unusedVariables false
set_option linter.unusedSimpArgs false
open Go Go.RowKit

/-! ### Operands, operations, code -/
inductive AX where
  | t (n : Nat)
  | c (v : AV)

inductive AOp where
  | mv (x : AX)
  | pick (c a b : AX)
  | alloc (z : List AV)
  | box (sz : Nat) (ag : Bool) (x : AX)
  | build (z : List AV) (parts : List (Nat × Nat × AX))
  | bsl (sz : Nat) (z : List AV) (n : Nat) (parts : List (Nat × AX))
  | ld (ag : Bool) (sz : Nat) (x : AX)
  | st (sz : Nat) (p x : AX)
  | nck (x : AX)
  | bin (op : BinOp) (x y : AX)
  | bool2 (neg : Bool) (x y : AX)
  | str2 (op : BinOp) (x y : AX)
  | nil2 (ptr neg : Bool) (x y : AX)
  | eqg (neg : Bool) (n : Nat) (x y : AX)
  | un (op : UnOp) (x : AX)
  | cv (k : IntKind) (x : AX)
  | mkf (f : Nat) (caps : List AX)
  | mks (sz bytes : Nat) (z : List AV) (l c : AX)
  | slc (sz : Nat) (x : AX) (lo hi : Option AX)
  | slc3 (sz : Nat) (x : AX) (lo : Option AX) (hi mx : AX)
  | fa (off : Nat) (x : AX)
  | fld (ag : Bool) (off sz : Nat) (x : AX)
  | ia (sz : Nat) (x i : AX)
  | istr (x i : AX)
  | ext (x : AX) (i : Nat)
  | call (f : Nat) (args : List AX)
  | callv (x : AX) (args : List AX)
  | len (x : AX)
  | slen (x : AX)
  | app (sz bytes : Nat) (z : List AV) (x y : AX)
  | cpy (sz : Nat) (x y : AX)
  | clr (sz : Nat) (z : List AV) (x : AX)
  | mx (x y : AX)
  | mn (x y : AX)

structure AO where
  d : Option Nat
  g : Option (Nat × Bool)
  op : AOp

inductive AC where
  | skip
  | reg (ops : List AO)
  | dreg (ops : List AO) (deps : List (List Nat))
  | seq (a b : AC)
  | cond (c : AX) (x y : AC)
  | blk (id : Nat) (b : AC)
  | loop (b : AC)
  | exit (id : Nat)
  | ret

/-! ### Constants -/
mutual
def ofVal : Value → Option AV
  | .bool b => some (.bool b)
  | .int k n => some (.int k n)
  | .string s => some (.str s)
  | .slice none 0 0 => some .nilS
  | .pointer none => some .nilP
  | .nilFunc => some .nilF
  | .agg cs => (ofVals cs.toList).map .agg
  | _ => none
def ofVals : List Value → Option (List AV)
  | [] => some []
  | v :: vs => match ofVal v, ofVals vs with
    | some x, some xs => some (x :: xs)
    | _, _ => none
end

def leaf : Value → Bool
  | .bool _ | .int _ _ | .string _ | .slice none 0 0 | .pointer none | .nilFunc => true
  | _ => false

/-- A zero value's cells. -/
def zcells (P : Program) (t : TypeId) : Option (List AV) := do
  let i ← P.info? t
  let z ← i.zero
  let cs := z.cells.toList
  if cs.length = i.size ∧ cs.all leaf then ofVals cs else none

def size? (P : Program) (t : TypeId) : Option Nat := (P.info? t).map (·.size)
def bytes? (P : Program) (t : TypeId) : Option Nat := (P.info? t).map (·.bytes)
def isAg (P : Program) (t : TypeId) : Option Bool := match P.underlying t with
  | some (.struct _) | some (.array _ _) => some true
  | some _ => some false
  | none => none
def elem? (P : Program) (t : TypeId) : Option TypeId := match P.underlying t with
  | some (.slice e) => some e
  | _ => none

def cx : Operand → Option AX
  | .tmp n => some (.t n)
  | .const (.agg cs) => if cs.toList.all leaf then (ofVals cs.toList).map fun xs => .c (.agg xs) else none
  | .const v => if leaf v then (ofVal v).map .c else none
  | .func f => some (.c (.fn f []))
  | .global _ => none
def cxs : List Operand → Option (List AX)
  | [] => some []
  | x :: xs => match cx x, cxs xs with
    | some y, some ys => some (y :: ys)
    | _, _ => none

def cxo : Option Operand → Option (Option AX)
  | none => some none
  | some y => (cx y).map some

/-- A struct of two whole numbers. -/
def twoF (P : Program) (t : TypeId) : Bool := match P.underlying t with
  | some (.struct fs) => match fs.toList with
    | [f, f'] => !P.stoodInHeld t && !P.eqGuardType P.depth t && decide (f.name ≠ "_") && decide (f'.name ≠ "_") && f.offset == 0 && f'.offset == 1 && (match P.underlying f.type, P.underlying f'.type with
      | some (.int _), some (.int _) => true
      | _, _ => false) && isAg P f.type == some false && isAg P f'.type == some false
    | _ => false
  | _ => false

def compOp (P : Program) : Op → Option AOp
  | .move x | .assign x => do some (.mv (← cx x))
  | .pick c a b => do some (.pick (← cx c) (← cx a) (← cx b))
  | .alloc t => do some (.alloc (← zcells P t))
  | .box t x => do some (.box (← size? P t) (← isAg P t) (← cx x))
  | .load t x => do some (.ld (← isAg P t) (← size? P t) (← cx x))
  | .store t p x => do some (.st (← size? P t) (← cx p) (← cx x))
  | .nilCheck x => do some (.nck (← cx x))
  | .binOp op t x y _ => match P.underlying t with
    | some (.int _) => do some (.bin op (← cx x) (← cx y))
    | some .bool => match op with
      | .eql => do some (.bool2 false (← cx x) (← cx y))
      | .neq => do some (.bool2 true (← cx x) (← cx y))
      | _ => none
    | some .string => do some (.str2 op (← cx x) (← cx y))
    | some (.slice _) => match op with
      | .eql => do some (.nil2 false false (← cx x) (← cx y))
      | .neq => do some (.nil2 false true (← cx x) (← cx y))
      | _ => none
    | some (.pointer _) => match op with
      | .eql => do some (.nil2 true false (← cx x) (← cx y))
      | .neq => do some (.nil2 true true (← cx x) (← cx y))
      | _ => none
    | some (.struct _) => if twoF P t = true then (match op with
      | .eql => do some (.eqg false 2 (← cx x) (← cx y))
      | .neq => do some (.eqg true 2 (← cx x) (← cx y))
      | _ => none) else none
    | _ => none
  | .unOp op _ x => do some (.un op (← cx x))
  | .convert s t x => match P.underlying s, P.underlying t with
    | some (.int _), some (.int k) => do some (.cv k (← cx x))
    | _, _ => none
  | .makeFunc (.func f) first caps => if first.size = 0 then do some (.mkf f (← cxs caps.toList)) else none
  | .makeSlice t l c => do
    let e ← elem? P t
    some (.mks (← size? P e) (← bytes? P e) (← zcells P e) (← cx l) (← cx c))
  | .slice t x lo hi none => do
    let e ← elem? P t
    some (.slc (← size? P e) (← cx x) (← cxo lo) (← cxo hi))
  | .slice t x lo (some hi) (some m) => do
    let e ← elem? P t
    some (.slc3 (← size? P e) (← cx x) (← cxo lo) (← cx hi) (← cx m))
  | .fieldAddr t x i => match P.underlying t with
    | some (.struct fs) => match fs[i]? with
      | some f => if (size? P f.type).getD 0 = 0 then none else do some (.fa f.offset (← cx x))
      | none => none
    | _ => none
  | .field t x i => match P.underlying t with
    | some (.struct fs) => match fs[i]? with
      | some f => do some (.fld (← isAg P f.type) f.offset (← size? P f.type) (← cx x))
      | none => none
    | _ => none
  | .indexAddr t x i => do
    let e ← elem? P t
    some (.ia (← size? P e) (← cx x) (← cx i))
  | .index t x i => match P.underlying t with
    | some .string => do some (.istr (← cx x) (← cx i))
    | _ => none
  | .extract x i => do some (.ext (← cx x) i)
  | .buildSlice t n parts => do
    let e ← elem? P t
    let sz ← size? P e
    if n * sz > 1000 then none else
    let ps ← cxs (parts.toList.map (·.2))
    some (.bsl sz (← zcells P e) n ((parts.toList.map (·.1)).zip ps))
  | .build t parts => match P.underlying t with
    | some (.struct fs) => if (fs.toList.all fun f => (size? P f.type).isSome) = true then do
      let ps ← cxs (parts.toList.map (·.2))
      let os ← (parts.toList.map (·.1)).mapM fun i => match fs[i]? with
        | some f => (size? P f.type).map fun s => (f.offset, s)
        | none => none
      some (.build (← zcells P t) (((os.zip ps)).map fun ((o, s), x) => (o, s, x))) else none
    | _ => none
  | .call c => match c.callee with
    | .value (.func f) => do some (.call f (← cxs c.args.toList))
    | .value x => do some (.callv (← cx x) (← cxs c.args.toList))
    | .builtin .len => match c.args.toList, c.argTypes[0]?.bind P.underlying with
      | [x], some (.slice _) => do some (.len (← cx x))
      | [x], some .string => do some (.slen (← cx x))
      | _, _ => none
    | .builtin .append => match c.args.toList, c.argTypes.toList with
      | [x, y], [s, t] => do
        let e ← elem? P s
        if elem? P t = some e then some (.app (← size? P e) (← bytes? P e) (← zcells P e) (← cx x) (← cx y)) else none
      | _, _ => none
    | .builtin .copy => match c.args.toList, c.argTypes.toList with
      | [x, y], [s, t] => do
        let e ← elem? P s
        if elem? P t = some e then some (.cpy (← size? P e) (← cx x) (← cx y)) else none
      | _, _ => none
    | .builtin .clear => match c.args.toList, c.argTypes.toList with
      | [x], [s] => do
        let e ← elem? P s
        some (.clr (← size? P e) (← zcells P e) (← cx x))
      | _, _ => none
    | .builtin .max => match c.args.toList with
      | [x, y] => do some (.mx (← cx x) (← cx y))
      | _ => none
    | .builtin .min => match c.args.toList with
      | [x, y] => do some (.mn (← cx x) (← cx y))
      | _ => none
    | _ => none
  | _ => none

/-! ### What an operation gives -/
def pureR (v : AV) : Option (AV × List (Nat × Option Rows) × Nat) := some (v, [], 0)

def cellsOf : AV → Option (List AV)
  | .undef => none
  | .tup _ => none
  | .agg cs => some cs
  | v => some [v]

def put (row : List AV) (j : Nat) (cs : List AV) : List AV := row.take j ++ cs ++ row.drop (j + cs.length)

def fillA (g : AX → AV) : List AV → List (Nat × Nat × AX) → Option (List AV)
  | z, [] => some z
  | z, (o, s, x) :: ps => match cellsOf (g x) with
    | some cs => if cs.length = s ∧ o + s ≤ z.length then fillA g (put z o cs) ps else none
    | none => none

def fillS (g : AX → AV) (sz : Nat) : Rows → List (Nat × AX) → Option Rows
  | z, [] => some z
  | z, (i, x) :: ps => match cellsOf (g x) with
    | some cs => if cs.length = sz ∧ i < z.length then fillS g sz (z.set i cs) ps else none
    | none => none

def binI (op : BinOp) (k : IntKind) (a b : Int) : Option AV :=
  match op with
  | .add => some (.int k (k.wrap (a + b)))
  | .sub => some (.int k (k.wrap (a - b)))
  | .mul => some (.int k (k.wrap (a * b)))
  | .quo => if b = 0 then none else some (.int k (k.wrap (a.tdiv b)))
  | .rem => if b = 0 then none else some (.int k (a.tmod b))
  | .and => some (.int k (k.wrap (BitVec.ofInt k.bits a &&& BitVec.ofInt k.bits b).toNat))
  | .or => some (.int k (k.wrap (BitVec.ofInt k.bits a ||| BitVec.ofInt k.bits b).toNat))
  | .andNot => some (.int k (k.wrap (BitVec.ofInt k.bits a &&& ~~~ BitVec.ofInt k.bits b).toNat))
  | .eql => some (.bool (a == b))
  | .neq => some (.bool (a != b))
  | .lss => some (.bool (decide (a < b)))
  | .leq => some (.bool (decide (a ≤ b)))
  | .gtr => some (.bool (decide (a > b)))
  | .geq => some (.bool (decide (a ≥ b)))
  | _ => none

def shI (op : BinOp) (k : IntKind) (a b : Int) : Option AV :=
  if b < 0 then none else
  match op with
  | .shl => some (.int k (k.wrap (a * 2 ^ (min b.toNat k.bits))))
  | .shr => some (.int k (a.fdiv (2 ^ (min b.toNat k.bits))))
  | _ => none

def strO (op : BinOp) (x y : ByteArray) : Option AV :=
  match op with
  | .eql => some (.bool (x.toList == y.toList))
  | .neq => some (.bool !(x.toList == y.toList))
  | .lss => some (.bool (Op.bytesLess x.toList y.toList))
  | .leq => some (.bool (Op.bytesLess x.toList y.toList || x.toList == y.toList))
  | .gtr => some (.bool !(Op.bytesLess x.toList y.toList || x.toList == y.toList))
  | .geq => some (.bool !(Op.bytesLess x.toList y.toList))
  | _ => none

def isNil (ptr : Bool) : AV → Option Bool
  | .nilS => if ptr then none else some true
  | .nilP => if ptr then some true else none
  | .vw true _ | .sl _ _ _ _ => if ptr then none else some false
  | .vp _ | .pt _ _ _ => if ptr then some false else none
  | _ => none

def bound (g : AX → AV) (d : Nat) : Option AX → Option Nat
  | none => some d
  | some x => match g x with
    | .int _ n => if 0 ≤ n then some n.toNat else none
    | _ => none

def okRows (sz : Nat) (rows : Rows) : Bool := rows.all fun r => r.length == sz

/-- The rows that a slice value shows. -/
def rowsOf (H : Nat → Option Rows) (sz : Nat) : AV → Option Rows
  | .nilS => some []
  | .vw _ es => if okRows sz es = true then some es else none
  | .sl r s off len => if s = sz then (H r).map fun rows => (rows.drop off).take len else none
  | _ => none

def ev (g : AX → AV) (H : Nat → Option Rows) (nr : Nat) : AOp → Option (AV × List (Nat × Option Rows) × Nat)
  | .mv x => pureR (g x)
  | .pick c a b => match g c with
    | .bool t => pureR (if t then g a else g b)
    | _ => none
  | .alloc z => some (.pt nr 0 0, [(nr, some [z])], 1)
  | .box sz ag x => match g x with
    | .agg cs => if ag = true ∧ cs.length = sz then some (.pt nr 0 0, [(nr, some [cs])], 1) else none
    | .undef => none
    | .tup _ => none
    | v => if ag = false ∧ sz = 1 then some (.pt nr 0 0, [(nr, some [[v]])], 1) else none
  | .build z parts => match fillA g z parts with
    | some cs => pureR (.agg cs)
    | none => none
  | .bsl sz z n parts => match fillS g sz (List.replicate n z) parts with
    | some rows => some (.sl nr sz 0 n, [(nr, some rows)], 1)
    | none => none
  | .ld ag sz x => match g x with
    | .vp cs => if ag then (if sz ≤ cs.length then pureR (.agg (cs.take sz)) else none) else (match cs with
      | v :: _ => pureR v
      | [] => none)
    | .pt r i j => match H r with
      | some rows => match rows[i]? with
        | some row => if ag then (if j + sz ≤ row.length then pureR (.agg ((row.drop j).take sz)) else none) else (match row[j]? with
          | some v => pureR v
          | none => none)
        | none => none
      | none => none
    | _ => none
  | .st sz p x => match g p with
    | .pt r i j => match H r with
      | some rows => match rows[i]? with
        | some row => match cellsOf (g x) with
          | some cs => if cs.length = sz ∧ j + sz ≤ row.length then some (.undef, [(r, some (rows.set i (put row j cs)))], 0) else none
          | none => none
        | none => none
      | none => none
    | _ => none
  | .nck x => match g x with
    | .vp cs => pureR (.vp cs)
    | .pt r i j => pureR (.pt r i j)
    | .fn f caps => pureR (.fn f caps)
    | _ => none
  | .bin op x y => match g x, g y with
    | .int k a, .int k' b => match op with
      | .shl | .shr => (shI op k a b).bind pureR
      | _ => if k = k' then (binI op k a b).bind pureR else none
    | _, _ => none
  | .bool2 neg x y => match g x, g y with
    | .bool a, .bool b => pureR (.bool (if neg then a != b else a == b))
    | _, _ => none
  | .str2 op x y => match g x, g y with
    | .str a, .str b => (strO op a b).bind pureR
    | _, _ => none
  | .nil2 ptr neg x y => match isNil ptr (g x), isNil ptr (g y) with
    | some a, some b => if a || b then pureR (.bool (if neg then !(a && b) else (a && b))) else none
    | _, _ => none
  | .eqg neg n x y => match g x, g y with
    | .agg [.int k1 a1, .int k2 a2], .agg [.int k3 b1, .int k4 b2] => if k1 = k3 ∧ k2 = k4 then pureR (.bool (if neg then !(a1 == b1 && a2 == b2) else (a1 == b1 && a2 == b2))) else none
    | _, _ => none
  | .un op x => match op, g x with
    | .not, .bool b => pureR (.bool !b)
    | .neg, .int k n => pureR (.int k (k.wrap (0 - n)))
    | _, _ => none
  | .cv k x => match g x with
    | .int _ n => pureR (.int k (k.wrap n))
    | _ => none
  | .mkf f caps => pureR (.fn f (caps.map g))
  | .mks sz bytes z l c => match g l, g c with
    | .int .i64 a, .int .i64 b => if a = b ∧ 0 ≤ a ∧ a ≤ 4294967296 ∧ bytes ≤ 4096 then some (.sl nr sz 0 a.toNat, [(nr, some (List.replicate a.toNat z))], 1) else none
    | _, _ => none
  | .slc sz x lo hi => match g x with
    | .vw nn es => match bound g 0 lo, bound g es.length hi with
      | some l, some h => if l ≤ h ∧ h ≤ es.length ∧ okRows sz es then pureR (.vw nn ((es.drop l).take (h - l))) else none
      | _, _ => none
    | .sl r s off len => match H r with
      | some rows => match bound g 0 lo, bound g len hi with
        | some l, some h => if l ≤ h ∧ off + h ≤ rows.length ∧ s = sz then pureR (.sl r sz (off + l) (h - l)) else none
        | _, _ => none
      | none => none
    | .nilS => match bound g 0 lo, bound g 0 hi with
      | some 0, some 0 => pureR .nilS
      | _, _ => none
    | _ => none
  | .slc3 sz x lo hi mx => match g x with
    | .sl r s off len => match H r with
      | some rows => match bound g 0 lo, bound g 0 (some hi), bound g 0 (some mx) with
        | some l, some h, some m => if l ≤ h ∧ h ≤ m ∧ off + m = rows.length ∧ s = sz then pureR (.sl r sz (off + l) (h - l)) else none
        | _, _, _ => none
      | none => none
    | _ => none
  | .fa off x => match g x with
    | .vp cs => pureR (.vp (cs.drop off))
    | .pt r i j => pureR (.pt r i (j + off))
    | _ => none
  | .fld ag off sz x => match g x with
    | .agg cs => if ag then (if off + sz ≤ cs.length then pureR (.agg ((cs.drop off).take sz)) else none) else (match cs[off]? with
      | some v => pureR v
      | none => none)
    | _ => none
  | .ia sz x i => match g i with
    | .int _ n => if 0 ≤ n then (match g x with
      | .vw _ es => match es[n.toNat]? with
        | some row => if row.length = sz then pureR (.vp row) else none
        | none => none
      | .sl r s off len => if n.toNat < len ∧ s = sz then pureR (.pt r (off + n.toNat) 0) else none
      | _ => none) else none
    | _ => none
  | .istr x i => match g x, g i with
    | .str s, .int _ n => if 0 ≤ n then (match s[n.toNat]? with
      | some b => pureR (.int .u8 b.toNat)
      | none => none) else none
    | _, _ => none
  | .ext x i => match g x with
    | .tup vs => match vs[i]? with
      | some v => pureR v
      | none => none
    | _ => none
  | .call _ _ => none
  | .callv _ _ => none
  | .len x => match g x with
    | .nilS => pureR (.int .i64 0)
    | .vw _ es => pureR (.int .i64 es.length)
    | .sl _ _ _ len => pureR (.int .i64 len)
    | _ => none
  | .slen x => match g x with
    | .str s => pureR (.int .i64 s.size)
    | _ => none
  | .app sz bytes z x y => match rowsOf H sz (g y) with
    | some new => match g x with
      | .nilS => if new.length ≤ 4294967296 ∧ bytes ≤ 4096 then (if new = [] then pureR .nilS else some (.sl nr sz 0 new.length, [(nr, some new)], 1)) else none
      | .sl r s off len => match H r with
        | some rows =>
          if off + len + new.length ≤ rows.length ∧ s = sz then
            some (.sl r sz off (len + new.length), [(r, some (rows.take (off + len) ++ new ++ rows.drop (off + len + new.length)))], 0)
          else if off = 0 ∧ len = rows.length ∧ s = sz ∧ len + new.length ≤ 4294967296 ∧ bytes ≤ 4096 then
            some (.sl nr sz 0 (len + new.length), [(r, none), (nr, some (rows ++ new))], 1)
          else none
        | none => none
      | _ => none
    | none => none
  | .cpy sz x y => match g x, rowsOf H sz (g y) with
    | .sl r s off len, some src => match H r with
      | some rows => if s = sz ∧ off + len ≤ rows.length then
          some (.int .i64 (src.take len).length, [(r, some (rows.take off ++ src.take len ++ rows.drop (off + (src.take len).length)))], 0) else none
      | none => none
    | _, _ => none
  | .clr sz z x => match g x with
    | .sl r s off len => match H r with
      | some rows => if s = sz ∧ off + len ≤ rows.length then
          some (.tup [], [(r, some (rows.take off ++ List.replicate len z ++ rows.drop (off + (List.replicate len z).length)))], 0) else none
      | none => none
    | .nilS => pureR (.tup [])
    | _ => none
  | .mx x y => match g x, g y with
    | .int k a, .int _ b => pureR (.int k (if b > a then b else a))
    | _, _ => none
  | .mn x y => match g x, g y with
    | .int k a, .int _ b => pureR (.int k (if b < a then b else a))
    | _, _ => none

def upd (H : Nat → Option Rows) : List (Nat × Option Rows) → Nat → Option Rows
  | [], r => H r
  | (k, x) :: l, r => if r = k then x else upd H l r

def lk : List (Nat × AV) → Nat → AV
  | [], _ => .undef
  | (k, v) :: l, n => if n = k then v else lk l n

structure St where
  t : List (Nat × AV)
  h : List (Nat × Option Rows)
  nr : Nat

def hg (h : List (Nat × Option Rows)) : Nat → Option Rows := upd (fun _ => none) h
def St.get (s : St) : AX → AV
  | .t n => lk s.t n
  | .c v => v
def St.put (s : St) (d : Option Nat) (v : AV) : St := match d with
  | some d => { s with t := (d, v) :: s.t }
  | none => s

theorem upd_append (H : Nat → Option Rows) : ∀ (l m : List (Nat × Option Rows)) (r : Nat), upd H (l ++ m) r = upd (upd H m) l r
  | [], _, _ => rfl
  | (k, x) :: l, m, r => by simp only [List.cons_append, upd]; split; rfl; exact upd_append H l m r

end Go.Proofs.Yteoonedddgiacaa.Ab
