/- A machine on plain data, proved sound for the model, for the proofs of this seat; its conditions stand at each theorem. Here: PmxDef, PmxRun, PmxOk, PmxRel, PmxS1, PmxS2, PmxS3, PmxS4, PmxS5, PmxS6, PmxS7, PmxS8, PmxS9, PmxSA -/
import GoSem.Dispatch
import GoSem.Step
import Derived.Below
import Derived.Laws.World
import Derived.Laws.Sem
import Derived.Laws.Entries
import Derived.Laws.Cells
import Derived.Laws.Strings
import Derived.Calls
import Derived.Laws.StructEq
import Derived.Laws.Append
import Derived.Laws.Tables
import Derived.Laws.MakeOwn

section
set_option linter.unusedSimpArgs false
set_option linter.unusedVariables false
set_option linter.unusedSectionVars false
/- The pure machine: the values, the store and the steps of a machine on plain data, to which the model's runs are tied (PmxOps, PmxRun). Definitions alone. -/
namespace Go.Pm

/-- What of a slice's room behind its end is known: none is there; the right to it (a token of the store); nothing. -/
inductive Cap where
  | exact
  | tok (k : Nat)
  | no
  deriving DecidableEq, Inhabited

/-- A value: what is never written is there by itself; what is written lies in the store. -/
inductive AV where
  | bool (b : Bool)
  | int (k : IntKind) (n : Int)
  | str (s : List UInt8)
  | flt (k : FloatKind) (bits : Nat)
  | cplx (k : FloatKind) (re im : Nat)
  | nilp
  | ip (sz : Nat) (row : List AV) (i off : Nat)
  | bp (id off : Nat)
  | sl (sz : Nat) (row : List AV) (cap : Cap)
  | bs (sz id off len : Nat)
  | nilm
  | map (id : Nat)
  | fn (f : Fn) (first captured : List AV)
  | nilf
  | iface (t : TypeId) (v : AV)
  | nili
  | agg (cells : List AV)
  | tup (vs : List AV)
  deriving Inhabited

def AV.undef : AV := .tup []

def AV.cells : AV → List AV
  | .agg cs => cs
  | v => [v]

def flat (row : List AV) : List AV := row.flatMap AV.cells

inductive AObj where
  /- of a type whose variables it holds, and as many cells; none: there may be more behind them -/
  | cells (c : List AV) (elem : Option TypeId)
  | map (es : List (AV × AV))
  | tok (t : TypeId)
  | dead
  | hole
  deriving Inhabited

def Cap.isTok : Cap → Bool
  | .tok _ => true
  | _ => false

abbrev Store := List AObj
abbrev Env := List (Nat × AV)

def look (env : Env) (s : Nat) : Option AV :=
  match env with
  | [] => none
  | (t, v) :: r => if t = s then some v else look r s

def keepE (ks : List Nat) (env : Env) : Env :=
  ks.filterMap fun s => (look env s).map (s, ·)

/-- An operand. -/
inductive AX where
  | t (slot : Nat)
  | c (v : AV)
  | g (g : Nat)

abbrev Globals := Nat → Option (List AV)

def AX.ev (G : Globals) (env : Env) : AX → Option AV
  | .t s => look env s
  | .c v => some v
  | .g i => (G i).map fun cs => .ip cs.length [.agg cs] 0 0

def evs (G : Globals) (env : Env) : List AX → Option (List AV)
  | [] => some []
  | x :: r => match x.ev G env, evs G env r with
    | some v, some vs => some (v :: vs)
    | _, _ => none

/-- A kind of what is compared as one cell. -/
inductive SK where
  | b | i | f | c | s | p | fn | n

/-- How two values of a type are compared. -/
inductive EqD where
  | scalar (k : SK)
  | fields (fs : List (Nat × Nat × Bool × EqD))   -- offset, size, is it an aggregate
  | arr (len sz : Nat) (isAgg : Bool) (d : EqD)

/-- An operation, its types resolved. -/
inductive AOp where
  | mov (x : AX)
  | pick (c a b : AX)
  | alloc (zero : List AV) (elem : TypeId)
  | box (elem : TypeId) (sz : Nat) (x : AX)
  | ibox (x : AX)                                       -- a box that is never written
  | mkbs (sz bytes : Nat) (zero : List AV) (elem : TypeId) (n : AX)
  | mkroom (sz bytes : Nat) (elem : TypeId) (n : AX)
  | build (zero : List AV) (parts : List (Nat × Nat × AX))
  | bslice (elem : TypeId) (sz : Nat) (zero : List AV) (len : Nat) (parts : List (Nat × AX))
  | load (n : Option Nat) (x : AX)
  | store (n : Nat) (a x : AX)
  | nilchk (x : AX)
  | bin (op : BinOp) (x y : AX)
  | eqb (neg : Bool) (d : EqD) (x y : AX)
  | un (op : UnOp) (x : AX)
  | cvi (k : IntKind) (x : AX)
  | cvid (x : AX)
  | cvrune (x : AX)
  | cvb2s (x : AX)
  | cvs2b (elem : TypeId) (x : AX)
  | cvi2f (k : FloatKind) (x : AX)
  | cvf2i (k : IntKind) (x : AX)
  | mkif (t : TypeId) (x : AX)
  | mkfn (f : Fn) (first captured : List AX)
  | slstr (x : AX) (lo hi : Option AX)
  | slsl (sz : Nat) (x : AX) (lo hi mx : Option AX)
  | slarr (len sz : Nat) (x : AX) (lo hi mx : Option AX)
  | faddr (off : Nat) (x : AX)
  | fld (off : Nat) (n : Option Nat) (x : AX)
  | idxas (sz : Nat) (x i : AX)
  | idxaa (len sz : Nat) (x i : AX)
  | idxstr (x i : AX)
  | idxarr (len sz : Nat) (n : Option Nat) (x i : AX)
  | ext (x : AX) (i : Nat)
  | call (k : Bool) (f : FuncId) (args : List AX)
  | callv (k : Bool) (f : AX) (args : List AX)
  | lenstr (x : AX)
  | lensl (x : AX)
  | lenc (n : Nat)
  | app (elem : TypeId) (sz bytes : Nat) (x y : AX)
  | min (xs : List AX)
  | max (xs : List AX)
  | tassert (t : TypeId) (zero : AV) (commaOk : Bool) (x : AX)
  | panic (x : AX)
  | re (x : AX)
  | im (x : AX)
  | mkcplx (x y : AX)

structure AOper where
  dst : Option Nat
  guard : Option (Nat × Bool)      -- the slot that must hold the bool
  op : AOp

inductive ACode where
  | skip
  | region (ops : List AOper) (keep : List Nat)
  | draw (ops : List AOper) (before : List (List Nat)) (keep : List Nat)
  | seq (a b : ACode)
  | cond (c : AX) (a b : ACode)
  | block (id : Nat) (b : ACode)
  | loop (keep : List Nat) (b : ACode)
  | exit (id : Nat)
  | scope (b : ACode)
  | label (l : Nat)
  | goto (l : Nat)
  | ret
  | refuse

inductive ARes where
  | tmp (t : Nat)
  | cell (t : Nat) (n : Option Nat)

structure AFunc where
  nparams : Nat
  ntmps : Nat
  res : List ARes
  body : ACode

inductive AExit where
  | normal
  | exit (id : Nat)
  | goto (l : Nat)
  | ret
  | panic (v : AV)

inductive AOut where
  | ret (v : AV)
  | pan (v : AV)

/-! ### Reading and writing -/

/-- A value of 'n' cells from a list of cells. -/
def partOf (cs : List AV) (off : Nat) : Option Nat → Option AV
  | none => cs[off]?
  | some n => if off + n ≤ cs.length then some (.agg ((cs.drop off).take n)) else none

def storeOf (σ : Store) (id : Nat) : Option (List AV × Option TypeId) :=
  match σ[id]? with
  | some (.cells c e) => some (c, e)
  | _ => none

def loadAt (σ : Store) (n : Option Nat) : AV → Option AV
  | .ip _ row i off => match row[i]? with
    | some e => partOf e.cells off n
    | none => none
  | .bp id off => match storeOf σ id with
    | some (c, _) => partOf c off n
    | none => none
  | _ => none

/-- Cells put over others from a place on. -/
def putAt : List AV → Nat → List AV → List AV
  | _ :: cs, 0, v :: vs => v :: putAt cs 0 vs
  | c :: cs, off + 1, vs => c :: putAt cs off vs
  | cs, _, _ => cs

def AV.isCell : AV → Bool
  | .agg _ => false
  | .tup _ => false
  | _ => true

def storeAt (σ : Store) (n : Nat) (a x : AV) : Option Store :=
  match a with
  | .bp id off => match storeOf σ id with
    | some (c, e) =>
      if x.cells.length = n ∧ off + n ≤ c.length ∧ x.cells.all AV.isCell then some (σ.set id (.cells (putAt c off x.cells) e)) else none
    | none => none
  | _ => none

/-- Parts laid into a zero value. -/
def fillA (zero : List AV) : List (Nat × Nat × AV) → Option (List AV)
  | [] => some zero
  | (off, n, v) :: r => if v.cells.length = n ∧ off + n ≤ zero.length then fillA (putAt zero off v.cells) r else none

def wrapI (k : IntKind) (n : Int) : AV := .int k (k.wrap n)

def intBin (op : BinOp) (k : IntKind) (a b : Int) : Option AV :=
  match op with
  | .add => some (wrapI k (a + b))
  | .sub => some (wrapI k (a - b))
  | .mul => some (wrapI k (a * b))
  | .quo => if b = 0 then none else some (wrapI k (a.tdiv b))
  | .rem => if b = 0 then none else some (.int k (a.tmod b))
  | .and => some (wrapI k (BitVec.ofInt k.bits a &&& BitVec.ofInt k.bits b).toNat)
  | .or => some (wrapI k (BitVec.ofInt k.bits a ||| BitVec.ofInt k.bits b).toNat)
  | .xor => some (wrapI k (BitVec.ofInt k.bits a ^^^ BitVec.ofInt k.bits b).toNat)
  | .andNot => some (wrapI k (BitVec.ofInt k.bits a &&& ~~~ BitVec.ofInt k.bits b).toNat)
  | .eql => some (.bool (a == b))
  | .neq => some (.bool (a != b))
  | .lss => some (.bool (a < b))
  | .leq => some (.bool (a ≤ b))
  | .gtr => some (.bool (a > b))
  | .geq => some (.bool (a ≥ b))
  | _ => none

def shiftBin (op : BinOp) (k : IntKind) (a b : Int) : Option AV :=
  if b < 0 then none else
  match op with
  | .shl => some (wrapI k (a * 2 ^ (Nat.min b.toNat k.bits)))
  | .shr => some (.int k (a.fdiv (2 ^ (Nat.min b.toNat k.bits))))
  | _ => none

def strBin (op : BinOp) (a b : List UInt8) : Option AV :=
  match op with
  | .add => if a.length + b.length ≤ 9223372036854775807 then some (.str (a ++ b)) else none
  | .eql => some (.bool (a == b))
  | .neq => some (.bool (!(a == b)))
  | .lss => some (.bool (Op.bytesLess a b))
  | .leq => some (.bool (Op.bytesLess a b || a == b))
  | .gtr => some (.bool (!(Op.bytesLess a b || a == b)))
  | .geq => some (.bool (!Op.bytesLess a b))
  | _ => none

def fltBin (op : BinOp) (k : FloatKind) (x y : Nat) : Option AV :=
  match op with
  | .add => (k.format.add x y).map (.flt k)
  | .sub => (k.format.sub x y).map (.flt k)
  | .mul => (k.format.mul x y).map (.flt k)
  | .quo => (k.format.div x y).map (.flt k)
  | .eql => some (.bool (k.format.order x y == some .eq))
  | .neq => some (.bool (k.format.order x y != some .eq))
  | .lss => some (.bool (k.format.order x y == some .lt))
  | .leq => some (.bool (k.format.order x y == some .lt || k.format.order x y == some .eq))
  | .gtr => some (.bool (k.format.order x y == some .gt))
  | .geq => some (.bool (k.format.order x y == some .gt || k.format.order x y == some .eq))
  | _ => none

def cpxBin (op : BinOp) (k : FloatKind) (a b c d : Nat) : Option AV :=
  match op with
  | .eql => some (.bool (k.format.order a c == some .eq && k.format.order b d == some .eq))
  | .neq => some (.bool (!(k.format.order a c == some .eq && k.format.order b d == some .eq)))
  | _ => none

def binA (op : BinOp) (x y : AV) : Option AV :=
  match x, y with
  | .int k a, .int k' b =>
    match op with
    | .shl => shiftBin .shl k a b
    | .shr => shiftBin .shr k a b
    | _ => if k = k' then intBin op k a b else none
  | .str a, .str b => strBin op a b
  | .flt k a, .flt k' b => if k = k' then fltBin op k a b else none
  | .cplx k a b, .cplx k' c d => if k = k' then cpxBin op k a b c d else none
  | _, _ => none

def unA (op : UnOp) (x : AV) : Option AV :=
  match op, x with
  | .neg, .int k n => some (wrapI k (0 - n))
  | .not, .bool b => some (.bool !b)
  | _, _ => none

/-- Are two values of one cell the same? -/
def eqCell (k : SK) (x y : AV) : Option Bool :=
  match k, x, y with
  | .b, .bool a, .bool b => some (a == b)
  | .i, .int k a, .int k' b => if k = k' then some (a == b) else none
  | .s, .str a, .str b => some (a == b)
  | .f, .flt k a, .flt k' b => if k = k' then some (k.format.order a b == some .eq) else none
  | .c, .cplx k a b, .cplx k' c d => if k = k' then some (k.format.order a c == some .eq && k.format.order b d == some .eq) else none
  | .p, .nilp, .nilp => some true
  | .p, .nilp, .ip .. => some false
  | .p, .nilp, .bp .. => some false
  | .p, .ip .., .nilp => some false
  | .p, .bp .., .nilp => some false
  | .fn, .nilf, .nilf => some true
  | .fn, .nilf, .fn .. => some false
  | .fn, .fn .., .nilf => some false
  | .n, .nili, .nili => some true
  | .n, .nili, .iface .. => some false
  | .n, .iface .., .nili => some false
  | _, _, _ => none

def eqArr (f : AV → AV → Option Bool) (sz : Nat) (isAgg : Bool) (xs ys : List AV) : Nat → Nat → Option Bool
  | 0, _ => some true
  | len + 1, i =>
    match partOf xs (i * sz) (if isAgg then some sz else none), partOf ys (i * sz) (if isAgg then some sz else none) with
    | some x, some y => match f x y with
      | some true => eqArr f sz isAgg xs ys len (i + 1)
      | some false => some false
      | none => none
    | _, _ => none

mutual
def eqA : EqD → AV → AV → Option Bool
  | .scalar k, x, y => eqCell k x y
  | .fields fs, .agg xs, .agg ys => eqFields fs xs ys
  | .arr len sz isAgg d, .agg xs, .agg ys => eqArr (fun x y => eqA d x y) sz isAgg xs ys len 0
  | _, _, _ => none
def eqFields : List (Nat × Nat × Bool × EqD) → List AV → List AV → Option Bool
  | [], _, _ => some true
  | (off, n, isAgg, d) :: r, xs, ys =>
    match partOf xs off (if isAgg then some n else none), partOf ys off (if isAgg then some n else none) with
    | some x, some y => match eqA d x y with
      | some true => eqFields r xs ys
      | some false => some false
      | none => none
    | _, _ => none
end

def asNat (lim : Nat) : AV → Option Nat
  | .int _ n => if 0 ≤ n ∧ n ≤ lim then some n.toNat else none
  | _ => none

/-- low and high of a slice expression without a third bound. -/
def bounds2 (len : Nat) (lo hi : Option AV) : Option (Nat × Nat) :=
  match (match hi with | none => some len | some v => asNat len v) with
  | none => none
  | some h => match (match lo with | none => some 0 | some v => asNat h v) with
    | none => none
    | some l => some (l, h)

def sliceA (x : AV) (sz : Nat) (lo hi mx : Option AV) : Option AV :=
  match x with
  | .sl sz' row cap =>
    if sz' = sz then
      match mx with
      | none => match bounds2 row.length lo hi with
        | some (l, h) => some (.sl sz ((row.take h).drop l) (if h = row.length ∧ (l < h ∨ cap.isTok = false) then cap else .no))
        | none => none
      | some m => match asNat row.length m with
        | none => none
        | some m => match bounds2 m lo hi with
          | some (l, h) => some (.sl sz ((row.take h).drop l) (if h = m then .exact else .no))
          | none => none
    else none
  | .bs sz' id off len =>
    if sz' = sz then
      match mx with
      | none => match bounds2 len lo hi with
        | some (l, h) => some (.bs sz id (off + l * sz) (h - l))
        | none => none
      | some _ => none
    else none
  | _ => none

/-- The cells of what is appended. -/
def srcRow (σ : Store) (sz : Nat) : AV → Option (List AV)
  | .sl sz' row _ => if sz' = sz then some row else none
  | .str s => if sz = 1 then some (s.map fun b => .int .u8 b.toNat) else none
  | .bs sz' id off len => if sz' = sz ∧ sz = 1 then
      match storeOf σ id with
      | some (c, _) => if off + len ≤ c.length ∧ ((c.drop off).take len).all AV.isCell then some ((c.drop off).take len) else none
      | none => none
    else none
  | _ => none

def rowOk (sz : Nat) (row : List AV) : Bool := row.all fun e => e.cells.length == sz && e.cells.all AV.isCell

def appendA (σ : Store) (elem : TypeId) (sz bytes : Nat) (x y : AV) : Option (AV × Store) :=
  match x, srcRow σ sz y with
  | .sl sz' row cap, some new =>
    if sz' = sz ∧ rowOk sz new then
      if new = [] then some (.sl sz row cap, σ) else
      if 2 * (row.length + new.length) * bytes ≤ 281474976710656 then
        match cap with
        | .exact => some (.sl sz (row ++ new) (.tok σ.length), σ ++ [.tok elem])
        | .tok k => match σ[k]? with
          | some (.tok t) => if t = elem then some (.sl sz (row ++ new) (.tok σ.length), σ.set k .dead ++ [.tok elem]) else none
          | _ => none
        | .no => none
      else none
    else none
  | _, _ => none

def bytesOf : List AV → Option (List UInt8)
  | [] => some []
  | .int .u8 n :: r => match bytesOf r with
    | some s => some (UInt8.ofNat n.toNat :: s)
    | none => none
  | _ => none

/-! ### What leaves a call: no part of the store with it -/

def chunks (sz : Nat) : Nat → List AV → List AV
  | 0, _ => []
  | n + 1, cs => .agg (cs.take sz) :: chunks sz n (cs.drop sz)

def rowOfCells (sz len : Nat) (cs : List AV) : List AV := if sz = 1 then cs.take len else chunks sz len cs

mutual
/-- The value with no part of a store: 'f' tells what a box holds, by itself. -/
def stripW (f : Nat → Option (List AV)) : AV → Option AV
  | .ip sz row i off => match stripWs f row with
    | some r => some (.ip sz r i off)
    | none => none
  | .sl sz row _ => match stripWs f row with
    | some r => some (.sl sz r .no)
    | none => none
  | .agg cs => match stripWs f cs with
    | some r => some (.agg r)
    | none => none
  | .tup cs => match stripWs f cs with
    | some r => some (.tup r)
    | none => none
  | .iface t v => match stripW f v with
    | some r => some (.iface t r)
    | none => none
  | .fn g a b => match stripWs f a, stripWs f b with
    | some a, some b => some (.fn g a b)
    | _, _ => none
  | .bp id off => match f id with
    | some c => some (.ip c.length [.agg c] 0 off)
    | none => none
  | .bs sz id off len => match f id with
    | some c => if off + len * sz ≤ c.length ∧ c.all AV.isCell then some (.sl sz (rowOfCells sz len ((c.drop off).take (len * sz))) .no) else none
    | none => none
  | .map _ => none
  | v => some v
def stripWs (f : Nat → Option (List AV)) : List AV → Option (List AV)
  | [] => some []
  | v :: r => match stripW f v, stripWs f r with
    | some v, some r => some (v :: r)
    | _, _ => none
end

/-- What a box holds, by itself; 'n' bounds how deep boxes lead to boxes. -/
def boxf : Nat → Store → Nat → Option (List AV)
  | 0, _, _ => none
  | n + 1, σ, id => match storeOf σ id with
    | some (c, _) => stripWs (boxf n σ) c
    | none => none
def strip (σ : Store) (v : AV) : Option AV := stripW (boxf 16 σ) v
def strips (σ : Store) (v : List AV) : Option (List AV) := stripWs (boxf 16 σ) v

mutual
/-- Is there no box, no map in it (but for what a slice may do behind its end)? -/
def AV.pure : AV → Bool
  | .bp .. | .bs .. | .map _ => false
  | .ip _ row _ _ => puress row
  | .sl _ row _ => puress row
  | .agg cs => puress cs
  | .tup cs => puress cs
  | .iface _ v => v.pure
  | .fn _ a b => puress a && puress b
  | _ => true
def puress : List AV → Bool
  | [] => true
  | v :: r => v.pure && puress r
end

mutual
/-- Does nothing in it lead to memory? -/
def AV.flatv : AV → Bool
  | .bool _ | .int .. | .str _ | .flt .. | .cplx .. | .nilp | .nilm | .nilf | .nili => true
  | .agg cs => flatvs cs
  | .tup cs => flatvs cs
  | .iface _ v => v.flatv
  | _ => false
def flatvs : List AV → Bool
  | [] => true
  | v :: r => v.flatv && flatvs r
end

end Go.Pm
end

section
set_option linter.unusedSimpArgs false
set_option linter.unusedVariables false
set_option linter.unusedSectionVars false
/- The pure machine: its runs. Definitions alone. -/
namespace Go.Pm

abbrev CallA := FuncId → List AV → Store → Option (AOut × Store)

/-- A call that sees nothing of the store, and leaves nothing in it. -/
def callC (call : CallA) (f : FuncId) (args : List AV) (σ : Store) : Option (AOut × Store) :=
  match strips σ args with
  | none => none
  | some args' =>
    match call f args' [] with
    | some (.ret v, σ') =>
      if v.flatv then some (.ret v, σ) else
      if puress args then
        match strip σ' v with
        | some r => some (.ret r, σ)
        | none => none
      else none
    | some (.pan v, _) => if v.flatv then some (.pan v, σ) else none
    | none => none

def callM (k : Bool) (call : CallA) (f : FuncId) (args : List AV) (σ : Store) : Option (AOut × Store) :=
  if k then call f args σ else callC call f args σ

def val (σ : Store) (v : Option AV) : Option (AOut × Store) :=
  match v with
  | some v => some (.ret v, σ)
  | none => none

def foldI (up : Bool) (k : IntKind) : Int → List AV → Option AV
  | acc, [] => some (.int k acc)
  | acc, .int _ y :: r => foldI up k (if up then (if y > acc then y else acc) else (if y < acc then y else acc)) r
  | _, _ => none
def minI : List AV → Option AV
  | .int k x :: r => foldI false k x r
  | _ => none
def maxI : List AV → Option AV
  | .int k x :: r => foldI true k x r
  | _ => none

def optEv (G : Globals) (env : Env) : Option AX → Option (Option AV)
  | none => some none
  | some x => (x.ev G env).map some

def pickParts (G : Globals) (env : Env) : List (Nat × Nat × AX) → Option (List (Nat × Nat × AV))
  | [] => some []
  | (o, n, x) :: r => match x.ev G env, pickParts G env r with
    | some v, some vs => some ((o, n, v) :: vs)
    | _, _ => none

def pickSl (G : Globals) (env : Env) (sz : Nat) : List (Nat × AX) → Option (List (Nat × Nat × AV))
  | [] => some []
  | (i, x) :: r => match x.ev G env, pickSl G env sz r with
    | some v, some vs => some ((i * sz, sz, v) :: vs)
    | _, _ => none

def b2s (σ : Store) (x : AV) : Option AV :=
  match srcRow σ 1 x, x with
  | _, .str _ => none
  | some r, _ => (bytesOf r).map .str
  | none, _ => none

def evalOp (call : CallA) (G : Globals) (env : Env) (σ : Store) : AOp → Option (AOut × Store)
  | .mov x => val σ (x.ev G env)
  | .pick c a b => match c.ev G env, a.ev G env, b.ev G env with
    | some (.bool t), some x, some y => some (.ret (if t then x else y), σ)
    | _, _, _ => none
  | .alloc zero elem => some (.ret (.bp σ.length 0), σ ++ [.cells zero (some elem)])
  | .box elem n x => match x.ev G env with
    | some v => if v.cells.length = n ∧ v.cells.all AV.isCell then some (.ret (.bp σ.length 0), σ ++ [.cells v.cells (some elem)]) else none
    | none => none
  | .ibox x => match x.ev G env with
    | some v => some (.ret (.ip v.cells.length [.agg v.cells] 0 0), σ)
    | none => none
  | .mkbs sz bytes zero elem n => match n.ev G env with
    | some (.int _ n) => if 0 ≤ n ∧ n.toNat * bytes ≤ 281474976710656 ∧ n ≤ 9223372036854775807 then
        some (.ret (.bs sz σ.length 0 n.toNat), σ ++ [.cells (List.replicate n.toNat zero).flatten (some elem)]) else none
    | _ => none
  | .mkroom sz bytes elem n => match n.ev G env with
    | some (.int _ n) => if 0 ≤ n ∧ n.toNat * bytes ≤ 281474976710656 ∧ n ≤ 9223372036854775807 then
        some (.ret (.sl sz [] (.tok σ.length)), σ ++ [.tok elem]) else none
    | _ => none
  | .build zero parts => match pickParts G env parts with
    | some ps => match fillA zero ps with
      | some cs => some (.ret (.agg cs), σ)
      | none => none
    | none => none
  | .bslice _ sz zero len parts => match pickSl G env sz parts with
    | some ps => match fillA (List.replicate len zero).flatten ps with
      | some cs => if cs.all AV.isCell then some (.ret (.sl sz (rowOfCells sz len cs) .exact), σ) else none
      | none => none
    | none => none
  | .load n x => match x.ev G env with
    | some a => val σ (loadAt σ n a)
    | none => none
  | .store n a x => match a.ev G env, x.ev G env with
    | some a, some v => match storeAt σ n a v with
      | some σ' => some (.ret AV.undef, σ')
      | none => none
    | _, _ => none
  | .nilchk x => match x.ev G env with
    | some (.ip s r i o) => some (.ret (.ip s r i o), σ)
    | some (.bp i o) => some (.ret (.bp i o), σ)
    | some (.fn f a b) => match f with
      | .func f => some (.ret (.fn (.func f) a b), σ)
      | _ => none
    | _ => none
  | .bin op x y => match x.ev G env, y.ev G env with
    | some a, some b => val σ (binA op a b)
    | _, _ => none
  | .eqb neg d x y => match x.ev G env, y.ev G env with
    | some a, some b => match eqA d a b with
      | some t => some (.ret (.bool (if neg then !t else t)), σ)
      | none => none
    | _, _ => none
  | .un op x => match x.ev G env with
    | some a => val σ (unA op a)
    | none => none
  | .cvi k x => match x.ev G env with
    | some (.int _ n) => some (.ret (wrapI k n), σ)
    | _ => none
  | .cvid x => match x.ev G env with
    | some (.str s) => some (.ret (.str s), σ)
    | _ => none
  | .cvrune x => match x.ev G env with
    | some (.int _ n) => some (.ret (.str (Utf8.encode n).data.toList), σ)
    | _ => none
  | .cvb2s x => match x.ev G env with
    | some a => val σ (b2s σ a)
    | none => none
  | .cvs2b _ x => match x.ev G env with
    | some (.str s) => if s.length ≤ 140737488355328 then some (.ret (.bs 1 σ.length 0 s.length), σ ++ [.cells (s.map fun b => .int .u8 b.toNat) none]) else none
    | _ => none
  | .cvi2f k x => match x.ev G env with
    | some (.int _ n) => some (.ret (.flt k (k.nearest n)), σ)
    | _ => none
  | .cvf2i k x => match x.ev G env with
    | some (.flt s b) => match (s.decode b).toInt .zero with
      | some n => if k.min ≤ n ∧ n ≤ k.max then some (.ret (.int k n), σ) else none
      | none => none
    | _ => none
  | .mkif t x => val σ ((x.ev G env).map (.iface t))
  | .mkfn f a b => match evs G env a, evs G env b with
    | some a, some b => some (.ret (.fn f a b), σ)
    | _, _ => none
  | .slstr x lo hi => match x.ev G env, optEv G env lo, optEv G env hi with
    | some (.str s), some lo, some hi => match bounds2 s.length lo hi with
      | some (l, h) => some (.ret (.str ((s.take h).drop l)), σ)
      | none => none
    | _, _, _ => none
  | .slsl sz x lo hi mx => match x.ev G env, optEv G env lo, optEv G env hi, optEv G env mx with
    | some a, some lo, some hi, some mx => val σ (sliceA a sz lo hi mx)
    | _, _, _, _ => none
  | .slarr len sz x lo hi mx => match x.ev G env, optEv G env lo, optEv G env hi, mx with
    | some (.bp id off), some lo, some hi, none => match bounds2 len lo hi with
      | some (l, h) => some (.ret (.bs sz id (off + l * sz) (h - l)), σ)
      | none => none
    | _, _, _, _ => none
  | .faddr off x => match x.ev G env with
    | some (.ip s r i o) => some (.ret (.ip s r i (o + off)), σ)
    | some (.bp i o) => some (.ret (.bp i (o + off)), σ)
    | _ => none
  | .fld off n x => match x.ev G env with
    | some (.agg cs) => val σ (partOf cs off n)
    | _ => none
  | .idxas sz x i => match x.ev G env, i.ev G env with
    | some (.sl sz' row _), some (.int _ n) => if sz' = sz ∧ 0 ≤ n ∧ n < row.length then some (.ret (.ip sz row n.toNat 0), σ) else none
    | some (.bs sz' id off len), some (.int _ n) => if sz' = sz ∧ 0 ≤ n ∧ n < len then some (.ret (.bp id (off + n.toNat * sz)), σ) else none
    | _, _ => none
  | .idxaa len sz x i => match x.ev G env, i.ev G env with
    | some (.ip s r j o), some (.int _ n) => if 0 ≤ n ∧ n < len then some (.ret (.ip s r j (o + n.toNat * sz)), σ) else none
    | some (.bp id off), some (.int _ n) => if 0 ≤ n ∧ n < len then some (.ret (.bp id (off + n.toNat * sz)), σ) else none
    | _, _ => none
  | .idxstr x i => match x.ev G env, i.ev G env with
    | some (.str s), some (.int _ n) => if 0 ≤ n then
        match s[n.toNat]? with
        | some b => some (.ret (.int .u8 b.toNat), σ)
        | none => none
      else none
    | _, _ => none
  | .idxarr len sz n x i => match x.ev G env, i.ev G env with
    | some (.agg cs), some (.int _ k) => if 0 ≤ k ∧ k < len then val σ (partOf cs (k.toNat * sz) n) else none
    | _, _ => none
  | .ext x i => match x.ev G env with
    | some (.tup vs) => val σ vs[i]?
    | _ => none
  | .call k f args => match evs G env args with
    | some vs => callM k call f vs σ
    | none => none
  | .callv k f args => match f.ev G env, evs G env args with
    | some (.fn (.func f) first captured), some vs => callM k call f (first ++ vs ++ captured) σ
    | _, _ => none
  | .lenstr x => match x.ev G env with
    | some (.str s) => some (.ret (.int .i64 s.length), σ)
    | _ => none
  | .lensl x => match x.ev G env with
    | some (.sl _ row _) => some (.ret (.int .i64 row.length), σ)
    | some (.bs _ _ _ len) => some (.ret (.int .i64 len), σ)
    | _ => none
  | .lenc n => some (.ret (.int .i64 n), σ)
  | .app elem sz bytes x y => match x.ev G env, y.ev G env with
    | some a, some b => match appendA σ elem sz bytes a b with
      | some (v, σ') => some (.ret v, σ')
      | none => none
    | _, _ => none
  | .min xs => match evs G env xs with
    | some vs => val σ (minI vs)
    | none => none
  | .max xs => match evs G env xs with
    | some vs => val σ (maxI vs)
    | none => none
  | .tassert t zero ok x => match x.ev G env with
    | some (.iface t' v) => if ok then some (.ret (.tup (if t' = t then [v, .bool true] else [zero, .bool false])), σ) else if t' = t then some (.ret v, σ) else none
    | some .nili => if ok then some (.ret (.tup [zero, .bool false]), σ) else none
    | _ => none
  | .panic x => match x.ev G env with
    | some (.iface t v) => some (.pan (.iface t v), σ)
    | _ => none
  | .re x => match x.ev G env with
    | some (.cplx k a _) => some (.ret (.flt k a), σ)
    | _ => none
  | .im x => match x.ev G env with
    | some (.cplx k _ b) => some (.ret (.flt k b), σ)
    | _ => none
  | .mkcplx x y => match x.ev G env, y.ev G env with
    | some (.flt k a), some (.flt k' b) => if k = k' then some (.ret (.cplx k a b), σ) else none
    | _, _ => none

def putE (env : Env) (dst : Option Nat) (v : AV) : Env :=
  match dst with
  | some d => (d, v) :: env
  | none => env

def guardOk (env : Env) : Option (Nat × Bool) → Option Bool
  | none => some true
  | some (s, want) => match look env s with
    | some (.bool b) => some (b == want)
    | some _ => some false
    | none => none

abbrev Res := Option (AExit × Env × Store)

def evalOps (call : CallA) (G : Globals) : List AOper → Env → Store → Res
  | [], env, σ => some (.normal, env, σ)
  | o :: r, env, σ =>
    match guardOk env o.guard with
    | none => none
    | some false => evalOps call G r (putE env o.dst AV.undef) σ
    | some true =>
      match evalOp call G env σ o.op with
      | some (.ret v, σ') => evalOps call G r (putE env o.dst v) σ'
      | some (.pan v, σ') => some (.panic v, env, σ')
      | none => none

def iterA (f : Env → Store → Res) (keep : List Nat) : Nat → Env → Store → Res
  | 0, _, _ => none
  | n + 1, env, σ =>
    match f (keepE keep env) σ with
    | some (.normal, env, σ) => iterA f keep n env σ
    | x => x

def hasLabel (l : Nat) : ACode → Bool
  | .seq a b => hasLabel l a || hasLabel l b
  | .label l' => l' == l
  | _ => false

/-- Jumps: 'f (some l)' goes on from label l. -/
def jumpsA (f : Option Nat → Env → Store → Res) : Nat → Option Nat → Env → Store → Res
  | 0, _, _, _ => none
  | n + 1, start, env, σ =>
    match f start env σ with
    | some (.goto l, env, σ) => jumpsA f n (some l) env σ
    | x => x

abbrev DrawA := List AOper → List (List Nat) → Env → Store → Res

def evalCode (call : CallA) (draw : DrawA) (G : Globals) (fuel : Nat) : ACode → Option Nat → Env → Store → Res
  | .seq a b, some l, env, σ =>
    if hasLabel l a then
      match evalCode call draw G fuel a (some l) env σ with
      | some (.normal, env, σ) => evalCode call draw G fuel b none env σ
      | x => x
    else evalCode call draw G fuel b (some l) env σ
  | .label l', some l, env, σ => if l' = l then some (.normal, env, σ) else none
  | _, some _, _, _ => none
  | .skip, none, env, σ => some (.normal, env, σ)
  | .label _, none, env, σ => some (.normal, env, σ)
  | .region ops keep, none, env, σ =>
    match evalOps call G ops env σ with
    | some (.normal, env, σ) => some (.normal, keepE keep env, σ)
    | x => x
  | .draw ops before keep, none, env, σ =>
    match draw ops before env σ with
    | some (.normal, env, σ) => some (.normal, keepE keep env, σ)
    | x => x
  | .seq a b, none, env, σ =>
    match evalCode call draw G fuel a none env σ with
    | some (.normal, env, σ) => evalCode call draw G fuel b none env σ
    | x => x
  | .cond c a b, none, env, σ =>
    match c.ev G env with
    | some (.bool true) => evalCode call draw G fuel a none env σ
    | some (.bool false) => evalCode call draw G fuel b none env σ
    | _ => none
  | .block id b, none, env, σ =>
    match evalCode call draw G fuel b none env σ with
    | some (.exit i, env, σ) => if i = id then some (.normal, env, σ) else some (.exit i, env, σ)
    | x => x
  | .loop keep b, none, env, σ => iterA (evalCode call draw G fuel b none) keep fuel env σ
  | .exit id, none, env, σ => some (.exit id, env, σ)
  | .goto l, none, env, σ => some (.goto l, env, σ)
  | .ret, none, env, σ => some (.ret, env, σ)
  | .scope b, none, env, σ => jumpsA (evalCode call draw G fuel b) fuel none env σ
  | .refuse, none, _, _ => none

def resultsA (env : Env) (σ : Store) : List ARes → Option (List AV)
  | [] => some []
  | .tmp t :: r => match look env t, resultsA env σ r with
    | some v, some vs => some (v :: vs)
    | _, _ => none
  | .cell t n :: r => match look env t with
    | some a => match loadAt σ n a, resultsA env σ r with
      | some v, some vs => some (v :: vs)
      | _, _ => none
    | none => none

def oneOrTup : List AV → AV
  | [v] => v
  | vs => .tup vs

def params : Nat → List AV → Env
  | _, [] => []
  | i, v :: r => (i, v) :: params (i + 1) r

def evalFn (call : CallA) (draw : DrawA) (G : Globals) (fuel : Nat) (fn : AFunc) (args : List AV) (σ : Store) : Option (AOut × Store) :=
  if args.length = fn.nparams then
    match evalCode call draw G fuel fn.body none (params 0 args) σ with
    | some (.normal, env, σ) => (resultsA env σ fn.res).map fun vs => (.ret (oneOrTup vs), σ)
    | some (.ret, env, σ) => (resultsA env σ fn.res).map fun vs => (.ret (oneOrTup vs), σ)
    | some (.panic v, _, σ) => some (.pan v, σ)
    | _ => none
  else none

/-! ### Regions whose order is open: all orders come to the same -/

inductive Eff where
  | none
  | write (id off : Nat) (vals : List AV)
  | birth (id : Nat) (cs : List AV) (e : Option TypeId)
  | jump (σ : Store)

def Eff.app : Eff → Store → Store
  | .none, σ => σ
  | .write id off vals, σ => match storeOf σ id with
    | some (c, e) => σ.set id (.cells (putAt c off vals) e)
    | _ => σ
  | .birth id cs e, σ => σ.set id (.cells cs e)
  | .jump σ', _ => σ'

inductive Rd where
  | no
  | cell (id off n : Nat)
  | all

def apart (o n o' n' : Nat) : Bool := o + n ≤ o' || o' + n' ≤ o

/-- May two operations not change places? -/
def conflict : Eff → Rd → Eff → Rd → Bool
  | .none, .no, _, _ => false
  | _, _, .none, .no => false
  | .none, _, .none, _ => false
  | .none, .cell id o n, .write id' o' vs, .no => id == id' && !apart o n o' vs.length
  | .write id' o' vs, .no, .none, .cell id o n => id == id' && !apart o n o' vs.length
  | .none, .cell id _ _, .birth id' _ _, .no => id == id'
  | .birth id' _ _, .no, .none, .cell id _ _ => id == id'
  | .write id o vs, .no, .write id' o' vs', .no => id == id' && !apart o vs.length o' vs'.length
  | .write id _ _, .no, .birth id' _ _, .no => id == id'
  | .birth id' _ _, .no, .write id _ _, .no => id == id'
  | .birth id _ _, .no, .birth id' _ _, .no => id == id'
  | _, _, _, _ => true

/-- Operations that are ordered against all that touches the store. -/
def AOp.shares : AOp → Bool
  | .call true .. | .callv true .. | .app .. | .cvs2b .. | .mkbs .. | .mkroom .. => true
  | _ => false

/-- A new box at a place kept for it. -/
def bornD (σ : Store) (k : Nat) (cs : List AV) (e : Option TypeId) : Option (AV × Eff × Rd) :=
  match σ[k]? with
  | some .hole => some (.bp k 0, .birth k cs e, .no)
  | _ => none

def readsD (vs : List AV) : Option (AOut × Store) → Option (AV × Eff × Rd)
  | some (.ret v, _) => some (v, .none, if puress vs then .no else .all)
  | _ => none

/-- An operation, and what it does to the store; 'k': the place of its new box. -/
def stepD (call : CallA) (G : Globals) (env : Env) (σ : Store) (k : Nat) (ao : AOp) : Option (AV × Eff × Rd) :=
  match ao with
  | .load n x => match x.ev G env with
    | some a => match loadAt σ n a with
      | some v => match a with
        | .bp id off => some (v, .none, .cell id off (n.getD 1))
        | _ => some (v, .none, .no)
      | none => none
    | none => none
  | .store n a x => match a.ev G env, x.ev G env with
    | some (.bp id off), some v => match storeAt σ n (.bp id off) v with
      | some _ => some (AV.undef, .write id off v.cells, .no)
      | none => none
    | _, _ => none
  | .alloc zero elem => bornD σ k zero (some elem)
  | .box elem n x => match x.ev G env with
    | some v => if v.cells.length = n ∧ v.cells.all AV.isCell then bornD σ k v.cells (some elem) else none
    | none => none
  | .call false f args => match evs G env args with
    | some vs => readsD vs (callC call f vs σ)
    | none => none
  | .callv false f args => match f.ev G env, evs G env args with
    | some (.fn (.func f) first captured), some vs => readsD (first ++ vs ++ captured) (callC call f (first ++ vs ++ captured) σ)
    | _, _ => none
  | .cvb2s x => match x.ev G env with
    | some a => match b2s σ a with
      | some v => some (v, .none, .all)
      | none => none
    | none => none
  | ao => match evalOp call G env σ ao with
    | some (.ret v, σ') => if ao.shares then some (v, .jump σ', .all) else some (v, .none, .no)
    | _ => none

def AOp.births : AOp → Nat
  | .alloc .. | .box .. => 1
  | _ => 0

def stepG (call : CallA) (G : Globals) (env : Env) (σ : Store) (k : Nat) (o : AOper) : Option (AV × Eff × Rd) :=
  match guardOk env o.guard with
  | none => none
  | some false => some (AV.undef, .none, .no)
  | some true => stepD call G env σ k o.op

def births : List AOper → Nat
  | [] => 0
  | o :: r => o.op.births + births r

/-- The text's order; what each operation does. -/
def goD (call : CallA) (G : Globals) : List AOper → Env → Store → Nat → Option (List (AV × Eff × Rd) × Env × Store)
  | [], env, σ, _ => some ([], env, σ)
  | o :: r, env, σ, k =>
    match stepG call G env σ k o with
    | none => none
    | some (v, e, rd) => match goD call G r (putE env o.dst v) (e.app σ) (k + o.op.births) with
      | some (tr, env', σ') => some ((v, e, rd) :: tr, env', σ')
      | none => none

def loudD (e : Eff) (r : Rd) : Bool :=
  match e, r with
  | .none, .no => false
  | _, _ => true

/-- Those that do something to the store, or read it, with their numbers. -/
def loudsD : Nat → List (AV × Eff × Rd) → List (Nat × Eff × Rd)
  | _, [] => []
  | i, (_, e, r) :: tr => if loudD e r then (i, e, r) :: loudsD (i + 1) tr else loudsD (i + 1) tr

def pairsD (before : List (List Nat)) : List (Nat × Eff × Rd) → Bool
  | [] => true
  | (i, e, r) :: tr => (tr.all fun (j, e', r') => !conflict e r e' r' || (before.getD j []).contains i) && pairsD before tr

def drawA (call : CallA) (G : Globals) : DrawA := fun ops before env σ =>
  match goD call G ops env (σ ++ List.replicate (births ops) .hole) σ.length with
  | some (tr, env', σ') => if pairsD before (loudsD 0 tr) then some (.normal, env', σ') else none
  | none => none

/-- Runs of functions: 'O' answers first, then the code that 'I' has; 'n' bounds how deep calls and loops go. -/
def runA (I : FuncId → Option AFunc) (O : CallA) (G : Globals) : Nat → CallA
  | 0, _, _, _ => none
  | n + 1, f, args, σ =>
    match O f args σ with
    | some r => some r
    | none => match I f with
      | some fn => evalFn (runA I O G n) (drawA (runA I O G n) G) G n fn args σ
      | none => none

end Go.Pm
end

section
set_option linter.unusedSimpArgs false
set_option linter.unusedVariables false
set_option linter.unusedSectionVars false
/- The pure machine: is its code the code of the model's? A check by reckoning. -/
namespace Go.Pm

mutual
def okConst : Nat → Value → AV → Bool
  | 0, _, _ => false
  | _ + 1, .bool a, .bool b => a == b
  | _ + 1, .int k a, .int k' b => k == k' && a == b
  | _ + 1, .string s, .str t => s.data.toList == t
  | _ + 1, .float k a, .flt k' b => k == k' && a == b
  | _ + 1, .complex k a b, .cplx k' a' b' => k == k' && a == a' && b == b'
  | _ + 1, .pointer none, .nilp => true
  | _ + 1, .slice none 0 0, .sl _ [] _ => true
  | _ + 1, .map none, .nilm => true
  | _ + 1, .nilFunc, .nilf => true
  | _ + 1, .nilIface, .nili => true
  | n + 1, .agg vs, .agg cs => okConsts n vs.toList cs
  | n + 1, .tuple vs, .tup cs => okConsts n vs.toList cs
  | n + 1, .iface t v, .iface t' a => t == t' && okConst n v a
  | n + 1, .func f a b, .fn f' a' b' => decide (f = f') && okConsts n a.toList a' && okConsts n b.toList b'
  | _ + 1, _, _ => false
def okConsts : Nat → List Value → List AV → Bool
  | 0, _, _ => false
  | _ + 1, [], [] => true
  | n + 1, v :: vs, a :: asl => okConst n v a && okConsts n vs asl
  | _ + 1, _, _ => false
end

def big : Nat := 100000

def okX : Operand → AX → Bool
  | .tmp t, .t s => t == s
  | .const v, .c a => okConst big v a
  | .global g, .g i => g == i
  | .func f, .c (.fn (.func f') [] []) => f == f'
  | _, _ => false
def okXs : List Operand → List AX → Bool
  | [], [] => true
  | x :: xs, a :: asl => okX x a && okXs xs asl
  | _, _ => false
def okXo : Option Operand → Option AX → Bool
  | none, none => true
  | some x, some a => okX x a
  | _, _ => false

def sizeIs (P : Program) (t : TypeId) (n : Nat) : Bool :=
  match P.info? t with
  | some i => i.size == n
  | none => false
def zeroIs (P : Program) (t : TypeId) (cs : List AV) : Bool :=
  match P.info? t with
  | some i => match i.zero with
    | some z => okConsts big z.cells.toList cs
    | none => false
  | none => false
def bytesIs (P : Program) (t : TypeId) (n : Nat) : Bool :=
  match P.info? t with
  | some i => i.bytes == n
  | none => false
def aggB (P : Program) (t : TypeId) : Bool :=
  match P.underlying t with
  | some (.struct _) | some (.array _ _) => true
  | _ => false
/-- Is 'n' how a value of the type is read: as one cell, or as an aggregate of so many? -/
def readIs (P : Program) (t : TypeId) (n : Option Nat) : Bool :=
  (P.underlying t).isSome &&
  match n with
  | none => !aggB P t
  | some n => aggB P t && sizeIs P t n

def okParts (place : Nat → Option (Nat × Nat)) : List (Nat × Operand) → List (Nat × Nat × AX) → Bool
  | [], [] => true
  | (i, x) :: r, (off, n, a) :: asl => decide (place i = some (off, n)) && okX x a && okParts place r asl
  | _, _ => false
def okPartsS : List (Nat × Operand) → List (Nat × AX) → Bool
  | [], [] => true
  | (i, x) :: r, (j, a) :: asl => i == j && okX x a && okPartsS r asl
  | _, _ => false

def okSk : TypeDesc → SK → Bool
  | .bool, .b | .int _, .i | .float _, .f | .complex _, .c | .string, .s | .pointer _, .p | .func .., .fn | .interface _, .n => true
  | _, _ => false

mutual
def okEq (P : Program) : Nat → TypeId → EqD → Bool
  | 0, _, _ => false
  | n + 1, t, d =>
    match P.underlying t, d with
    | some d, .scalar k => okSk d k
    | some (.struct fs), .fields ds => !P.stoodInHeld t && okEqs P n fs.toList ds
    | some (.array len e), .arr len' sz ag d => len == len' && sizeIs P e sz && (P.underlying e).isSome && aggB P e == ag && okEq P n e d
    | _, _ => false
def okEqs (P : Program) : Nat → List Field → List (Nat × Nat × Bool × EqD) → Bool
  | 0, _, _ => false
  | _ + 1, [], [] => true
  | n + 1, f :: fs, (off, sz, ag, d) :: ds =>
    f.name != "_" && f.offset == off && sizeIs P f.type sz && (P.underlying f.type).isSome && aggB P f.type == ag && okEq P n f.type d && okEqs P n fs ds
  | _ + 1, _, _ => false
end
def eqFuel : Nat := 200
def isScalarD : EqD → Bool
  | .scalar _ => true
  | _ => false
def isConst : Operand → Bool
  | .const _ => true
  | _ => false
def nilSide (d : EqD) (x y : Operand) : Bool :=
  match d with
  | .scalar .n => isConst x || isConst y
  | _ => true
def eqTop : EqD → Bool
  | .scalar .b | .scalar .p | .scalar .fn | .scalar .n | .fields _ | .arr .. => true
  | _ => false


def okCall (P : Program) (c : Call) (type : TypeId) (ao : AOp) : Bool :=
  match c.callee, ao with
  | .value (.func f), .call _ f' args => f == f' && okXs c.args.toList args &&
    (match P.funcs[f]? with
     | some fn => fn.name != "runtime.NumGoroutine" && fn.body.isSome
     | none => false)
  | .value f, .callv _ f' args => okX f f' && okXs c.args.toList args
  | .builtin .len, ao => match c.args.toList, (c.argTypes[0]?).bind P.underlying, ao with
    | [x], some .string, .lenstr a => okX x a
    | [x], some (.slice _), .lensl a => okX x a
    | [_], some (.array n _), .lenc n' => n == n'
    | _, _, _ => false
  | .builtin .append, .app elem sz bytes a b => match c.args.toList, c.argTypes.toList with
    | [x, y], [t, u] => okX x a && okX y b && (match P.underlying t with | some (.slice e) => e == elem | _ => false) && sizeIs P elem sz && bytesIs P elem bytes && sz != 0 && bytes != 0 &&
      (match P.underlying u with | some (.slice _) | some .string => true | _ => false) && (match P.info? elem with | some i => (match i.zero with | some z => z.cells.size == i.size | none => false) | none => false)
    | _, _ => false
  | .builtin .min, .min xs => okXs c.args.toList xs
  | .builtin .max, .max xs => okXs c.args.toList xs
  | .builtin .real, .re x => okXs c.args.toList [x]
  | .builtin .imag, .im x => okXs c.args.toList [x]
  | .builtin .complex, .mkcplx x y => okXs c.args.toList [x, y]
  | _, _ => false

def okOp (P : Program) (o : Oper) (ao : AOp) : Bool :=
  match o.op, ao with
  | .move x, .mov a | .assign x, .mov a => okX x a
  | .pick c x y, .pick c' a b => okX c c' && okX x a && okX y b
  | .alloc t, .alloc zero t' => t == t' && zeroIs P t zero
  | .box t x, .box t' _ a => t == t' && okX x a
  | .box _ x, .ibox a => okX x a
  | .makeSlice t l c, .mkbs sz bytes zero elem n => (match P.underlying t with | some (.slice e) => e == elem | _ => false) && okX l n && okX c n && sizeIs P elem sz && bytesIs P elem bytes && zeroIs P elem zero && zero.length == sz
  | .makeSlice t l c, .mkroom sz bytes elem n => (match P.underlying t with | some (.slice e) => e == elem | _ => false) && okX l (.c (.int .i64 0)) && okX c n && sizeIs P elem sz && bytesIs P elem bytes && (match P.info? elem with | some i => (match i.zero with | some z => z.cells.size == i.size | none => false) | none => false)
  | .build t parts, .build zero ps => zeroIs P t zero && (match P.underlying t with
    | some (.struct fs) => (match fs.toList.mapM (fun f => (P.info? f.type).map fun i => (f.offset, i.size)) with | some places => okParts (places.toArray[·]?) parts.toList ps | none => false)
    | some (.array _ e) => (match P.info? e with | some i => okParts (fun j => some (j * i.size, i.size)) parts.toList ps | none => false)
    | _ => false)
  | .buildSlice t len parts, .bslice elem sz zero len' ps => (match P.underlying t with | some (.slice e) => e == elem | _ => false) && len == len' && sizeIs P elem sz && sz != 0 && len * sz ≤ 16777216 && zeroIs P elem zero && zero.length == sz && okPartsS parts.toList ps
  | .load t x, .load n a => readIs P t n && okX x a
  | .store t x y, .store n a b => sizeIs P t n && okX x a && okX y b
  | .nilCheck x, .nilchk a => okX x a
  | .binOp op _ x y _, .bin op' a b => decide (op = op') && okX x a && okX y b
  | .binOp op t x y _, .eqb neg d a b => (if neg then decide (op = .neq) else decide (op = .eql)) && okX x a && okX y b && eqTop d && nilSide d x y && okEq P eqFuel t d && (!P.eqGuardType P.depth t || isScalarD d)
  | .unOp op _ x, .un op' a => decide (op = op') && okX x a
  | .convert s d x, .cvi k a => okX x a && (P.underlying s).isSome && (match P.underlying d with | some (.int k') => decide (k = k') | _ => false)
  | .convert s d x, .cvid a => okX x a && (P.underlying s).isSome && (match P.underlying d with | some .string => true | _ => false)
  | .convert s d x, .cvrune a => okX x a && (P.underlying s).isSome && (match P.underlying d with | some .string => true | _ => false)
  | .convert s d x, .cvb2s a => okX x a && (match P.underlying d with | some .string => true | _ => false) && (match P.underlying s with | some (.slice e) => (match P.underlying e with | some (.int .u8) => true | _ => false) | _ => false)
  | .convert s d x, .cvs2b elem a => okX x a && (P.underlying s).isSome && (match P.underlying d with | some (.slice e) => e == elem && (match P.underlying e with | some (.int .u8) => true | _ => false) | _ => false)
  | .convert s d x, .cvi2f k a => okX x a && (P.underlying s).isSome && (match P.underlying d with | some (.float k') => decide (k = k') | _ => false)
  | .convert s d x, .cvf2i k a => okX x a && (P.underlying s).isSome && (match P.underlying d with | some (.int k') => decide (k = k') | _ => false)
  | .makeInterface t x, .mkif t' a => t == t' && okX x a && (match P.underlying t with | some (.interface _) => false | some _ => true | none => false)
  | .makeFunc f xs ys, .mkfn f' asl bs => decide (f = f') && okXs xs.toList asl && okXs ys.toList bs
  | .slice t x lo hi mx, .slstr a l h => (match P.underlying t with | some .string => true | _ => false) && okX x a && okXo lo l && okXo hi h && mx.isNone
  | .slice t x lo hi mx, .slsl sz a l h m => (match P.underlying t with | some (.slice e) => sizeIs P e sz | _ => false) && okX x a && okXo lo l && okXo hi h && okXo mx m && (mx.isNone || hi.isSome)
  | .slice t x lo hi mx, .slarr len sz a l h m => (match P.underlying t with | some (.array n e) => n == len && sizeIs P e sz | _ => false) && okX x a && okXo lo l && okXo hi h && okXo mx m
  | .fieldAddr t x f, .faddr off a => okX x a && (match P.underlying t with
    | some (.struct fs) => (match fs[f]? with | some fl => fl.offset == off && (match P.info? fl.type with | some i => i.size != 0 | none => false) | none => false)
    | _ => false)
  | .field t x f, .fld off n a => okX x a && (match P.underlying t with
    | some (.struct fs) => (match fs[f]? with | some fl => fl.offset == off && readIs P fl.type n | none => false)
    | _ => false)
  | .indexAddr t x i, .idxas sz a b => okX x a && okX i b && (match P.underlying t with | some (.slice e) => sizeIs P e sz | _ => false)
  | .indexAddr t x i, .idxaa len sz a b => okX x a && okX i b && (match P.underlying t with | some (.array n e) => n == len && sizeIs P e sz | _ => false)
  | .index t x i, .idxstr a b => okX x a && okX i b && (match P.underlying t with | some .string => true | _ => false)
  | .index t x i, .idxarr len sz n a b => okX x a && okX i b && (match P.underlying t with | some (.array m e) => m == len && sizeIs P e sz && readIs P e n | _ => false)
  | .extract x i, .ext a j => okX x a && i == j
  | .call c, ao => okCall P c o.type ao
  | .typeAssert x _ t ok, .tassert t' zero ok' a => okX x a && t == t' && ok == ok' && (match P.underlying t with | some (.interface _) => false | some _ => true | none => false) &&
      (match P.info? t with | some i => (match i.zero with | some z => okConst big z zero | none => false) | none => false)
  | .panic x, .panic a => okX x a
  | _, _ => false

/-- The slot that an operation's guard looks at. -/
def okGuard (ops : Array Oper) : Option (Nat × Bool) → Option (Nat × Bool) → Bool
  | none, none => true
  | some (j, want), some (s, want') => want == want' && ((ops[j]?).bind (·.dst)) == some s
  | _, _ => false

def okDst (N : Nat) : Option Nat → Option Nat → Bool
  | none, none => true
  | some d, some d' => d == d' && decide (d < N)
  | _, _ => false

def okOps (P : Program) (N : Nat) (ops : Array Oper) : List Oper → List AOper → Bool
  | [], [] => true
  | o :: r, a :: asl => okDst N o.dst a.dst && okGuard ops o.guard a.guard && okOp P o a.op && okOps P N ops r asl
  | _, _ => false

def AX.slots : AX → List Nat
  | .t s => [s]
  | _ => []
def AX.slotss (xs : List AX) : List Nat := xs.flatMap AX.slots
def AX.slotso : Option AX → List Nat
  | some x => x.slots
  | none => []

/-- The slots that an operation looks at. -/
def AOp.slots : AOp → List Nat
  | .mov x | .box _ _ x | .load _ x | .nilchk x | .un _ x | .cvi _ x | .cvid x | .cvrune x | .cvb2s x | .cvs2b _ x | .cvi2f _ x | .cvf2i _ x | .mkif _ x | .faddr _ x | .fld _ _ x | .ext x _ | .lenstr x | .lensl x | .tassert _ _ _ x | .panic x | .re x | .im x => x.slots
  | .pick c a b => c.slots ++ a.slots ++ b.slots
  | .alloc .. | .lenc _ => []
  | .ibox x | .mkbs _ _ _ _ x | .mkroom _ _ _ x => x.slots
  | .build _ ps => ps.flatMap fun p => p.2.2.slots
  | .bslice _ _ _ _ ps => ps.flatMap fun p => p.2.slots
  | .store _ a x => a.slots ++ x.slots
  | .bin _ x y | .eqb _ _ x y | .app _ _ _ x y | .mkcplx x y => x.slots ++ y.slots
  | .mkfn _ a b => AX.slotss a ++ AX.slotss b
  | .slstr x lo hi => x.slots ++ AX.slotso lo ++ AX.slotso hi
  | .slsl _ x lo hi mx => x.slots ++ AX.slotso lo ++ AX.slotso hi ++ AX.slotso mx
  | .slarr _ _ x lo hi mx => x.slots ++ AX.slotso lo ++ AX.slotso hi ++ AX.slotso mx
  | .idxas _ x i | .idxaa _ _ x i | .idxstr x i | .idxarr _ _ _ x i => x.slots ++ i.slots
  | .call _ _ args => AX.slotss args
  | .callv _ f args => f.slots ++ AX.slotss args
  | .min xs | .max xs => AX.slotss xs
def AOper.slots (o : AOper) : List Nat := o.op.slots ++ (match o.guard with | some (s, _) => [s] | none => [])

/-- Do two operations have nothing to do with each other, as far as the slots go? -/
def apartS (x y : AOper) : Bool :=
  (match x.dst with | some d => !y.slots.contains d && y.dst != some d | none => true) &&
  (match y.dst with | some d => !x.slots.contains d | none => true)

/-- Each operation, its number, what must have come before it: against those ahead of it. -/
def hazA : List (Nat × AOper) → List (AOper × List Nat) → Nat → Bool
  | _, [], _ => true
  | past, (o, b) :: r, i => (past.all fun (j, p) => b.contains j || apartS p o) && hazA (past ++ [(i, o)]) r (i + 1)

/-- What must have come before each operation: the edges that bind. -/
def okBefore (ops : List Oper) (asl : List AOper) (before : List (List Nat)) : Bool :=
  ops.length == before.length && ((ops.zip before).all fun (o, b) => b.all fun j => o.after.any fun e => Region.binds .any e && (e.on == j || (before.getD e.on []).contains j)) &&
  (ops.zipIdx.all fun (o, i) => o.after.all fun e => !Region.binds .any e || e.on < i) && hazA [] (asl.zip before) 0

def okCode (P : Program) (N : Nat) : Code → ACode → Bool
  | .skip, .skip => true
  | .region _ ops false, .region asl _ => okOps P N ops ops.toList asl
  | .region _ ops true, .draw asl before _ => okOps P N ops ops.toList asl && okBefore ops.toList asl before
  | .seq a b, .seq x y => okCode P N a x && okCode P N b y
  | .cond c a b, .cond c' x y => okX c c' && okCode P N a x && okCode P N b y
  | .block i b, .block j x => i == j && okCode P N b x
  | .loop b, .loop _ x => okCode P N b x
  | .exit i, .exit j => i == j
  | .scope b, .scope x => okCode P N b x
  | .label l, .label l' => l == l'
  | .goto l, .goto l' => l == l'
  | .ret, .ret => true
  | .refuse _, .refuse => true
  | _, _ => false

def okRes (P : Program) : List ResultVar → List ARes → Bool
  | [], [] => true
  | .tmp t :: r, .tmp s :: asl => t == s && okRes P r asl
  | .cell t ty :: r, .cell s n :: asl => t == s && readIs P ty n && okRes P r asl
  | _, _ => false

def okFunc (P : Program) (fn : Func) (a : AFunc) : Bool :=
  (match fn.body with
   | some c => okCode P fn.ntmps c a.body
   | none => false) && a.ntmps == fn.ntmps && a.nparams ≤ fn.ntmps && okRes P fn.results.toList a.res && fn.name != "runtime.NumGoroutine"

def okAt (P : Program) (f : FuncId) (a : AFunc) : Bool :=
  match P.funcs[f]? with
  | some fn => okFunc P fn a
  | none => false

end Go.Pm
end

section
set_option linter.unusedSimpArgs false
set_option linter.unusedVariables false
set_option linter.unusedSectionVars false
/- The pure machine: how its values and its store are tied to the model's values and worlds. -/
namespace Go.Pm
open Go.RowKit (Below)

/-- Where things lie: cells that are never written, boxes, rights to room. -/
structure Ctx where
  im : Nat → Nat → Option Value
  bx : Nat → Option Nat
  tk : Nat → Option (Nat × Nat × Nat)

structure Ctx.le (B : Nat) (C C' : Ctx) : Prop where
  im : ∀ b o v, C.im b o = some v → C'.im b o = some v
  bx : ∀ i b, C.bx i = some b → C'.bx i = some b
  tk : ∀ i b, C.tk i = some b → C'.tk i = some b
  old : ∀ b o, b < B → C'.im b o = C.im b o

theorem Ctx.le.refl (B : Nat) (C : Ctx) : Ctx.le B C C := ⟨fun _ _ _ h => h, fun _ _ h => h, fun _ _ h => h, fun _ _ _ => rfl⟩
theorem Ctx.le.trans {B : Nat} {C C' C'' : Ctx} (h : Ctx.le B C C') (h' : Ctx.le B C' C'') : Ctx.le B C C'' :=
  ⟨fun b o v k => h'.im b o v (h.im b o v k), fun i b k => h'.bx i b (h.bx i b k), fun i b k => h'.tk i b (h.tk i b k), fun b o k => (h'.old b o k).trans (h.old b o k)⟩
theorem Ctx.le.mono {B B' : Nat} {C C' : Ctx} (h : Ctx.le B C C') (hb : B' ≤ B) : Ctx.le B' C C' :=
  ⟨h.im, h.bx, h.tk, fun b o k => h.old b o (Nat.lt_of_lt_of_le k hb)⟩

def CapR (C : Ctx) (b e sz len c : Nat) : Cap → Prop
  | .exact => c = len
  | .tok k => len ≤ c ∧ C.tk k = some (b, e, e + (c - len) * sz)
  | .no => len ≤ c

theorem CapR.mono {B : Nat} {C C' : Ctx} (h : Ctx.le B C C') {b e sz len c : Nat} {cap : Cap} (k : CapR C b e sz len c cap) : CapR C' b e sz len c cap := by
  cases cap with
  | exact => exact k
  | tok j => exact ⟨k.1, h.tk _ _ k.2⟩
  | no => exact k
theorem CapR.le {C : Ctx} {b e sz len c : Nat} {cap : Cap} (k : CapR C b e sz len c cap) : len ≤ c := by
  cases cap with
  | exact => exact Nat.le_of_eq k.symm
  | tok j => exact k.1
  | no => exact k

inductive VR (C : Ctx) : AV → Value → Prop
  | bool {b} : VR C (.bool b) (.bool b)
  | int {k n} : VR C (.int k n) (.int k n)
  | str {s : List UInt8} : VR C (.str s) (.string ⟨s.toArray⟩)
  | flt {k b} : VR C (.flt k b) (.float k b)
  | cplx {k a b} : VR C (.cplx k a b) (.complex k a b)
  | nilp : VR C .nilp (.pointer none)
  | ip {sz row i off b o} {vs : List Value} (hsz : ∀ e, e ∈ row → e.cells.length = sz) (hl : (flat row).length = vs.length)
      (him : ∀ j v, vs[j]? = some v → C.im b (o + j) = some v) (hv : ∀ (j : Nat) a v, (flat row)[j]? = some a → vs[j]? = some v → VR C a v) :
      VR C (.ip sz row i off) (.pointer (some ⟨b, o + i * sz + off, none⟩))
  | bp {id off b} (h : C.bx id = some b) : VR C (.bp id off) (.pointer (some ⟨b, off, none⟩))
  | sl0 {sz cap} {base : Option Addr} : VR C (.sl sz [] cap) (.slice base 0 0)
  | sl {sz row cap b o c} {vs : List Value} (hsz : ∀ e, e ∈ row → e.cells.length = sz) (hl : (flat row).length = vs.length)
      (him : ∀ j v, vs[j]? = some v → C.im b (o + j) = some v) (hv : ∀ (j : Nat) a v, (flat row)[j]? = some a → vs[j]? = some v → VR C a v)
      (hc : CapR C b (o + row.length * sz) sz row.length c cap) : VR C (.sl sz row cap) (.slice (some ⟨b, o, none⟩) row.length c)
  | bs {sz id off len b off' c} (h : C.bx id = some b) (ho : len = 0 ∨ off' = off) (hc : len ≤ c) : VR C (.bs sz id off len) (.slice (some ⟨b, off', none⟩) len c)
  | nilm : VR C .nilm (.map none)
  | map {id b} (h : C.bx id = some b) : VR C (.map id) (.map (some b))
  | fn {f} {a b : List AV} {va vb : List Value} (hla : a.length = va.length) (hlb : b.length = vb.length)
      (ha : ∀ (j : Nat) x v, a[j]? = some x → va[j]? = some v → VR C x v) (hb : ∀ (j : Nat) x v, b[j]? = some x → vb[j]? = some v → VR C x v) :
      VR C (.fn f a b) (.func f va.toArray vb.toArray)
  | nilf : VR C .nilf .nilFunc
  | iface {t a v} (h : VR C a v) : VR C (.iface t a) (.iface t v)
  | nili : VR C .nili .nilIface
  | agg {cs : List AV} {vs : List Value} (hl : cs.length = vs.length) (h : ∀ (j : Nat) x v, cs[j]? = some x → vs[j]? = some v → VR C x v) : VR C (.agg cs) (.agg vs.toArray)
  | tup {cs : List AV} {vs : List Value} (hl : cs.length = vs.length) (h : ∀ (j : Nat) x v, cs[j]? = some x → vs[j]? = some v → VR C x v) : VR C (.tup cs) (.tuple vs.toArray)

/-- Two lists, value by value. -/
structure VRs (C : Ctx) (asl : List AV) (vs : List Value) : Prop where
  len : asl.length = vs.length
  at_ : ∀ (j : Nat) x v, asl[j]? = some x → vs[j]? = some v → VR C x v

theorem VR.mono {B : Nat} {C C' : Ctx} (h : Ctx.le B C C') {a : AV} {v : Value} (r : VR C a v) : VR C' a v := by
  induction r with
  | bool => exact .bool
  | int => exact .int
  | str => exact .str
  | flt => exact .flt
  | cplx => exact .cplx
  | nilp => exact .nilp
  | ip hsz hl him _ ih => exact .ip hsz hl (fun j v k => h.im _ _ _ (him j v k)) ih
  | bp k => exact .bp (h.bx _ _ k)
  | sl0 => exact .sl0
  | sl hsz hl him _ hc ih => exact .sl hsz hl (fun j v k => h.im _ _ _ (him j v k)) ih (hc.mono h)
  | bs k ho hc => exact .bs (h.bx _ _ k) ho hc
  | nilm => exact .nilm
  | map k => exact .map (h.bx _ _ k)
  | fn hla hlb _ _ iha ihb => exact .fn hla hlb iha ihb
  | nilf => exact .nilf
  | iface _ ih => exact .iface ih
  | nili => exact .nili
  | agg hl _ ih => exact .agg hl ih
  | tup hl _ ih => exact .tup hl ih

theorem VRs.mono {B : Nat} {C C' : Ctx} (h : Ctx.le B C C') {asl : List AV} {vs : List Value} (r : VRs C asl vs) : VRs C' asl vs :=
  ⟨r.len, fun j x v a b => (r.at_ j x v a b).mono h⟩
theorem VRs.nil (C : Ctx) : VRs C [] [] := ⟨rfl, fun j x v h => by simp at h⟩
theorem VRs.cons {C : Ctx} {a : AV} {v : Value} {asl : List AV} {vs : List Value} (h : VR C a v) (r : VRs C asl vs) : VRs C (a :: asl) (v :: vs) :=
  ⟨by simp [r.len], fun j x y hx hy => by
    cases j with
    | zero => simp at hx hy; subst hx; subst hy; exact h
    | succ j => simp at hx hy; exact r.at_ j x y hx hy⟩
theorem VRs.append {C : Ctx} {asl bs : List AV} {vs us : List Value} (h : VRs C asl vs) (r : VRs C bs us) : VRs C (asl ++ bs) (vs ++ us) :=
  ⟨by simp [h.len, r.len], fun j x y hx hy => by
    rw [List.getElem?_append] at hx hy
    rw [← h.len] at hy
    split at hx
    · rename_i hj; rw [if_pos hj] at hy; exact h.at_ j x y hx hy
    · rename_i hj; rw [if_neg hj] at hy; exact r.at_ _ x y hx hy⟩
theorem VRs.get {C : Ctx} {asl : List AV} {vs : List Value} (h : VRs C asl vs) {j : Nat} {a : AV} (ha : asl[j]? = some a) : ∃ v, vs[j]? = some v ∧ VR C a v := by
  have hj : j < vs.length := by rw [← h.len]; exact (List.getElem?_eq_some_iff.1 ha).1
  exact ⟨vs[j], List.getElem?_eq_getElem hj, h.at_ j a _ ha (List.getElem?_eq_getElem hj)⟩
theorem VRs.take {C : Ctx} {asl : List AV} {vs : List Value} (h : VRs C asl vs) (n : Nat) : VRs C (asl.take n) (vs.take n) :=
  ⟨by simp [h.len], fun j x y hx hy => by
    rw [List.getElem?_take] at hx hy
    split at hx
    · rename_i hj; rw [if_pos hj] at hy; exact h.at_ j x y hx hy
    · cases hx⟩
theorem VRs.drop {C : Ctx} {asl : List AV} {vs : List Value} (h : VRs C asl vs) (n : Nat) : VRs C (asl.drop n) (vs.drop n) :=
  ⟨by simp [h.len], fun j x y hx hy => by
    rw [List.getElem?_drop] at hx hy
    exact h.at_ _ x y hx hy⟩
theorem VRs.cons_inv {C : Ctx} {a : AV} {asl : List AV} {vs : List Value} (h : VRs C (a :: asl) vs) : ∃ v us, vs = v :: us ∧ VR C a v ∧ VRs C asl us := by
  cases vs with
  | nil => have := h.len; simp at this
  | cons v us => exact ⟨v, us, rfl, h.at_ 0 a v rfl rfl, by have := h.len; simpa using this, fun j x y hx hy => h.at_ (j + 1) x y (by simpa using hx) (by simpa using hy)⟩
theorem VRs.nil_inv {C : Ctx} {vs : List Value} (h : VRs C [] vs) : vs = [] := by
  have := h.len; cases vs with
  | nil => rfl
  | cons => simp at this

/-- The cells of two values. -/
theorem VR.cells {C : Ctx} {a : AV} {v : Value} (h : VR C a v) : VRs C a.cells v.cells.toList := by
  cases h with
  | agg hl h => exact ⟨by simpa [AV.cells, Value.cells] using hl, by simpa [AV.cells, Value.cells] using h⟩
  | ip h1 h2 h3 h4 => exact .cons (.ip h1 h2 h3 h4) (.nil _)
  | bp h => exact .cons (.bp h) (.nil _)
  | sl h1 h2 h3 h4 h5 => exact .cons (.sl h1 h2 h3 h4 h5) (.nil _)
  | bs h1 h2 h3 => exact .cons (.bs h1 h2 h3) (.nil _)
  | map h => exact .cons (.map h) (.nil _)
  | fn h1 h2 h3 h4 => exact .cons (.fn h1 h2 h3 h4) (.nil _)
  | iface h => exact .cons (.iface h) (.nil _)
  | tup h1 h2 => exact .cons (.tup h1 h2) (.nil _)
  | bool => exact .cons .bool (.nil _)
  | int => exact .cons .int (.nil _)
  | str => exact .cons .str (.nil _)
  | flt => exact .cons .flt (.nil _)
  | cplx => exact .cons .cplx (.nil _)
  | nilp => exact .cons .nilp (.nil _)
  | sl0 => exact .cons .sl0 (.nil _)
  | nilm => exact .cons .nilm (.nil _)
  | nilf => exact .cons .nilf (.nil _)
  | nili => exact .cons .nili (.nil _)

theorem VR.isCell {C : Ctx} {a : AV} {v : Value} (h : VR C a v) (ha : a.isCell = true) : v.oneCell' = true ∧ v.cells = #[v] := by
  cases h <;> first | (simp [AV.isCell] at ha; done) | exact ⟨rfl, rfl⟩

theorem flat_cons (e : AV) (row : List AV) : flat (e :: row) = e.cells ++ flat row := by simp [flat]
theorem flat_append (r s : List AV) : flat (r ++ s) = flat r ++ flat s := by simp [flat]
theorem flat_length {sz : Nat} {row : List AV} (h : ∀ e, e ∈ row → e.cells.length = sz) : (flat row).length = row.length * sz := by
  induction row with
  | nil => simp [flat]
  | cons e r ih =>
    rw [flat_cons, List.length_append, h e (by simp), ih (fun e he => h e (by simp [he]))]
    simp [Nat.add_mul]; omega
theorem flat_drop {sz : Nat} {row : List AV} (h : ∀ e, e ∈ row → e.cells.length = sz) (n : Nat) : flat (row.drop n) = (flat row).drop (n * sz) := by
  induction row generalizing n with
  | nil => simp [flat]
  | cons e r ih =>
    cases n with
    | zero => simp
    | succ n =>
      rw [List.drop_succ_cons, ih (fun e he => h e (by simp [he])), flat_cons, List.drop_append, List.drop_of_length_le (l := e.cells) (by rw [h e (by simp)]; simp [Nat.add_mul]), h e (by simp)]
      simp [Nat.add_mul]
theorem flat_take {sz : Nat} {row : List AV} (h : ∀ e, e ∈ row → e.cells.length = sz) (n : Nat) : flat (row.take n) = (flat row).take (n * sz) := by
  induction row generalizing n with
  | nil => simp [flat]
  | cons e r ih =>
    cases n with
    | zero => simp [flat]
    | succ n =>
      rw [List.take_succ_cons, flat_cons, ih (fun e he => h e (by simp [he])), flat_cons, List.take_append, List.take_of_length_le (l := e.cells) (by rw [h e (by simp)]; simp [Nat.add_mul]), h e (by simp)]
      simp [Nat.add_mul]
theorem flat_get {sz : Nat} {row : List AV} (h : ∀ e, e ∈ row → e.cells.length = sz) {i : Nat} {e : AV} (hi : row[i]? = some e) : ((flat row).drop (i * sz)).take sz = e.cells := by
  induction row generalizing i with
  | nil => simp at hi
  | cons x r ih =>
    rw [flat_cons]
    cases i with
    | zero =>
      simp at hi; subst hi
      simp [h x (by simp)]
    | succ i =>
      simp at hi
      rw [List.drop_append, List.drop_of_length_le (l := x.cells) (by rw [h x (by simp)]; simp [Nat.add_mul]), h x (by simp)]
      simp only [List.nil_append]
      rw [show (i + 1) * sz - sz = i * sz by simp [Nat.add_mul]]
      exact ih (fun e he => h e (by simp [he])) hi

/-! ### Worlds and stores -/

/-- What block b of a world holds. -/
def World.row? (w : World) (b : Nat) : Option (Array Value × TypeId × (Nat × Nat)) :=
  match w.heap[b]? with
  | some (.cells c e fr) => some (c, e, fr)
  | _ => none
theorem World.row?_eq {w : World} {b : Nat} {c e fr} : World.row? w b = some (c, e, fr) ↔ w.heap[b]? = some (.cells c e fr) := by
  unfold World.row?; split <;> rename_i h
  · rw [h]; simp
  · constructor
    · intro k; cases k
    · intro k; exact absurd k (h c e fr)

def own (C : Ctx) (σ : Store) (id : Nat) : Option Nat :=
  match σ[id]? with
  | some (.cells _ _) => C.bx id
  | some (.map _) => C.bx id
  | some (.tok _) => (C.tk id).map (·.1)
  | _ => none

/-- Nothing was ever born there. -/
def free (σ : Store) (id : Nat) : Prop := σ[id]? = none ∨ σ[id]? = some .hole

structure SR (B : Nat) (C : Ctx) (σ : Store) (w : World) : Prop where
  hB : B ≤ w.heap.size
  im : ∀ b o v, C.im b o = some v → ∃ c e fr, w.heap[b]? = some (.cells c e fr) ∧ c[o]? = some v
  fresh : ∀ id, free σ id → C.bx id = none ∧ C.tk id = none
  cells : ∀ (id : Nat) cs e, σ[id]? = some (.cells cs e) → ∃ b c fr e0, C.bx id = some b ∧ w.heap[b]? = some (.cells c e0 fr) ∧ cs.length ≤ c.size ∧ VRs C cs (c.toList.take cs.length) ∧
    (∀ o, C.im b o = none) ∧ (∀ o, o < cs.length → ¬ (fr.1 ≤ o ∧ o < fr.2)) ∧ (∀ t, e = some t → e0 = t ∧ c.size = cs.length)
  map : ∀ (id : Nat) es, σ[id]? = some (.map es) → False
  tok : ∀ (id : Nat) t, σ[id]? = some (.tok t) → ∃ b s e c fr, C.tk id = some (b, s, e) ∧ w.heap[b]? = some (.cells c t fr) ∧ e ≤ c.size ∧
    (∀ o, s ≤ o → o < e → C.im b o = none) ∧ (fr.1 = fr.2 ∨ fr.2 ≤ s)
  uniq : ∀ id id' b, own C σ id = some b → own C σ id' = some b → id = id'
  low : ∀ id b, own C σ id = some b → B ≤ b

/-- What of a world a tie leans on. -/
theorem SR.of_same {B : Nat} {C : Ctx} {σ : Store} {w w' : World} (h : SR B C σ w) (hs : w.heap.size ≤ w'.heap.size)
    (hb : ∀ b, b < w.heap.size → w'.heap[b]? = w.heap[b]?) : SR B C σ w' := by
  have lt : ∀ {b : Nat} {o : Obj}, w.heap[b]? = some o → b < w.heap.size := fun k => (Array.getElem?_eq_some_iff.1 k).1
  refine ⟨Nat.le_trans h.hB hs, ?_, h.fresh, ?_, h.map, ?_, h.uniq, h.low⟩
  · intro b o v k
    obtain ⟨c, e, fr, k1, k2⟩ := h.im b o v k
    exact ⟨c, e, fr, by rw [hb _ (lt k1)]; exact k1, k2⟩
  · intro id cs e k
    obtain ⟨b, c, fr, e0, k1, k2, k3⟩ := h.cells id cs e k
    exact ⟨b, c, fr, e0, k1, by rw [hb _ (lt k2)]; exact k2, k3⟩
  · intro id t k
    obtain ⟨b, s, e, c, fr, k1, k2, k3⟩ := h.tok id t k
    exact ⟨b, s, e, c, fr, k1, by rw [hb _ (lt k2)]; exact k2, k3⟩

theorem SR.of_below {B : Nat} {C : Ctx} {σ : Store} {w w' : World} (h : SR B C σ w) (hb : Below w.heap.size w w') : SR B C σ w' :=
  h.of_same hb.size hb.block

theorem SR.drew {B : Nat} {C : Ctx} {σ : Store} {w : World} (h : SR B C σ w) : SR B C σ w.drew := h.of_same (Nat.le_refl _) (fun _ _ => rfl)

end Go.Pm
end

section
set_option linter.unusedSimpArgs false
set_option linter.unusedVariables false
set_option linter.unusedSectionVars false
/- The pure machine: operands, and frames. -/
namespace Go.Pm
open Go.RowKit (Below)

theorem okConst_both (C : Ctx) : ∀ n, (∀ v a, okConst n v a = true → VR C a v) ∧ (∀ vs asl, okConsts n vs asl = true → VRs C asl vs) := by
  intro n
  induction n with
  | zero => exact ⟨fun v a h => by simp [okConst] at h, fun v a h => by simp [okConsts] at h⟩
  | succ n ih =>
    constructor
    · intro v a h
      unfold okConst at h
      split at h
      · rename_i h0; cases h0
      · rw [eq_of_beq h]; exact .bool
      · simp only [Bool.and_eq_true, beq_iff_eq] at h; obtain ⟨rfl, rfl⟩ := h; exact .int
      · rename_i s t _
        have h1 : s.data.toList = t := eq_of_beq h
        subst h1
        have : s = ⟨s.data.toList.toArray⟩ := by cases s; simp
        rw [this]; exact .str
      · simp only [Bool.and_eq_true, beq_iff_eq] at h; obtain ⟨rfl, rfl⟩ := h; exact .flt
      · simp only [Bool.and_eq_true, beq_iff_eq] at h; obtain ⟨⟨rfl, rfl⟩, rfl⟩ := h; exact .cplx
      · exact .nilp
      · exact .sl0
      · exact .nilm
      · exact .nilf
      · exact .nili
      · rename_i vs cs e
        cases e
        have r := ih.2 _ _ h
        have : VR C (.agg cs) (.agg vs.toList.toArray) := .agg r.len r.at_
        simpa using this
      · rename_i vs cs e
        cases e
        have r := ih.2 _ _ h
        have : VR C (.tup cs) (.tuple vs.toList.toArray) := .tup r.len r.at_
        simpa using this
      · rename_i e
        cases e
        simp only [Bool.and_eq_true, beq_iff_eq] at h; obtain ⟨rfl, h⟩ := h
        exact .iface (ih.1 _ _ h)
      · rename_i f a b f' a' b' e
        cases e
        simp only [Bool.and_eq_true, decide_eq_true_eq] at h; obtain ⟨⟨rfl, ha⟩, hb⟩ := h
        have ra := ih.2 _ _ ha
        have rb := ih.2 _ _ hb
        have : VR C (.fn f a' b') (.func f a.toList.toArray b.toList.toArray) := .fn ra.len rb.len ra.at_ rb.at_
        simpa using this
      · cases h
    · intro vs asl h
      unfold okConsts at h
      split at h
      · rename_i h0; cases h0
      · exact .nil _
      · rename_i e
        cases e
        simp only [Bool.and_eq_true] at h
        exact .cons (ih.1 _ _ h.1) (ih.2 _ _ h.2)
      · cases h

theorem okConst_sound {C : Ctx} {n : Nat} {v : Value} {a : AV} (h : okConst n v a = true) : VR C a v := (okConst_both C n).1 v a h
theorem okConsts_sound {C : Ctx} {n : Nat} {vs : List Value} {asl : List AV} (h : okConsts n vs asl = true) : VRs C asl vs := (okConst_both C n).2 vs asl h

/-- What is known of the slots. -/
structure ER (C : Ctx) (N : Nat) (env : Env) (tmps : Array Value) : Prop where
  size : tmps.size = N
  at_ : ∀ s a, look env s = some a → ∃ v, tmps[s]? = some v ∧ VR C a v

theorem ER.mono {B : Nat} {C C' : Ctx} (h : Ctx.le B C C') {N : Nat} {env : Env} {tmps : Array Value} (r : ER C N env tmps) : ER C' N env tmps :=
  ⟨r.size, fun s a k => let ⟨v, k1, k2⟩ := r.at_ s a k; ⟨v, k1, k2.mono h⟩⟩

/-- What is known of the package-level variables. -/
def GR (G : Globals) (C : Ctx) : Prop :=
  ∀ g cs, G g = some cs → ∃ vs : List Value, cs.length = vs.length ∧ (∀ j v, vs[j]? = some v → C.im g j = some v) ∧ (∀ (j : Nat) a v, cs[j]? = some a → vs[j]? = some v → VR C a v)

theorem GR.mono {B : Nat} {C C' : Ctx} (h : Ctx.le B C C') {G : Globals} (r : GR G C) : GR G C' := fun g cs k =>
  let ⟨vs, k1, k2, k3⟩ := r g cs k
  ⟨vs, k1, fun j v q => h.im _ _ _ (k2 j v q), fun j a v q q' => (k3 j a v q q').mono h⟩

section
variable {P : Program} {G : Globals} {C : Ctx} {N : Nat} {env : Env} {a : Act}

theorem okX_sound (er : ER C N env a.tmps) (gr : GR G C) {x : Operand} {ax : AX} (hok : okX x ax = true) {av : AV} (h : ax.ev G env = some av) : VR C av (a.eval x) := by
  unfold okX at hok
  split at hok
  · rename_i t s
    obtain rfl : t = s := eq_of_beq hok
    obtain ⟨v, k1, k2⟩ := er.at_ t av h
    simp only [Act.eval, Array.getD_eq_getD_getElem?, k1, Option.getD_some]
    exact k2
  · simp only [AX.ev, Option.some.injEq] at h; subst h
    exact okConst_sound hok
  · rename_i g i
    obtain rfl : g = i := eq_of_beq hok
    simp only [AX.ev, Option.map_eq_some_iff] at h
    obtain ⟨cs, hg, rfl⟩ := h
    obtain ⟨vs, k1, k2, k3⟩ := gr g cs hg
    have : VR C (.ip cs.length [.agg cs] 0 0) (.pointer (some ⟨g, 0 + 0 * cs.length + 0, none⟩)) :=
      .ip (vs := vs) (by intro e he; simp at he; subst he; rfl) (by simpa [flat, AV.cells] using k1) (by simpa using k2) (by simpa [flat, AV.cells] using k3)
    simpa [Act.eval] using this
  · rename_i f f'
    obtain rfl : f = f' := eq_of_beq hok
    simp only [AX.ev, Option.some.injEq] at h; subst h
    have : VR C (.fn (.func f) [] []) (.func (.func f) ([] : List Value).toArray ([] : List Value).toArray) := .fn rfl rfl (by simp) (by simp)
    simpa [Act.eval] using this
  · cases hok

theorem okXs_sound (er : ER C N env a.tmps) (gr : GR G C) : ∀ {xs : List Operand} {axs : List AX}, okXs xs axs = true → ∀ {avs : List AV}, evs G env axs = some avs → VRs C avs (xs.map a.eval) := by
  intro xs
  induction xs with
  | nil =>
    intro axs hok avs h
    cases axs with
    | nil => simp only [evs, Option.some.injEq] at h; subst h; exact .nil _
    | cons _ _ => simp [okXs] at hok
  | cons x xs ih =>
    intro axs hok avs h
    cases axs with
    | nil => simp [okXs] at hok
    | cons ax axs =>
      simp only [okXs, Bool.and_eq_true] at hok
      simp only [evs] at h
      split at h
      · rename_i v vs h1 h2
        cases h
        exact .cons (okX_sound er gr hok.1 h1) (ih hok.2 h2)
      · cases h

theorem okXo_sound (er : ER C N env a.tmps) (gr : GR G C) {x : Option Operand} {ax : Option AX} (hok : okXo x ax = true) {av : Option AV} (h : optEv G env ax = some av) :
    (x = none ∧ av = none) ∨ ∃ y v, x = some y ∧ av = some v ∧ VR C v (a.eval y) := by
  unfold okXo at hok
  split at hok
  · simp only [optEv, Option.some.injEq] at h; exact .inl ⟨rfl, h.symm⟩
  · rename_i y ay
    simp only [optEv, Option.map_eq_some_iff] at h
    obtain ⟨v, hv, rfl⟩ := h
    exact .inr ⟨y, v, rfl, rfl, okX_sound er gr hok hv⟩
  · cases hok

theorem ER.put (er : ER C N env a.tmps) {dst dst' : Option Nat} (hd : okDst N dst dst' = true) {av : AV} {v : Value} (h : VR C av v) : ER C N (putE env dst' av) (a.put dst v).tmps := by
  unfold okDst at hd
  split at hd
  · exact er
  · rename_i d d'
    simp only [Bool.and_eq_true, beq_iff_eq, decide_eq_true_eq] at hd
    obtain ⟨rfl, hlt⟩ := hd
    refine ⟨by simp [Act.put, er.size], fun s x hs => ?_⟩
    simp only [putE, look] at hs
    by_cases e : d = s
    · subst e
      simp only [if_true, Option.some.injEq] at hs
      subst hs
      exact ⟨v, by simp [Act.put, er.size, hlt], h⟩
    · rw [if_neg e] at hs
      obtain ⟨u, k1, k2⟩ := er.at_ s x hs
      exact ⟨u, by simp [Act.put, Array.getElem?_setIfInBounds, e, k1], k2⟩
  · cases hd

theorem look_keepE (ks : List Nat) (env : Env) (s : Nat) (x : AV) (h : look (keepE ks env) s = some x) : look env s = some x := by
  induction ks with
  | nil => simp [keepE, look] at h
  | cons k ks ih =>
    unfold keepE at h
    rw [List.filterMap_cons] at h
    cases hk : look env k with
    | none => simp only [hk, Option.map_none] at h; exact ih h
    | some y =>
      simp only [hk, Option.map_some, look] at h
      by_cases e : k = s
      · subst e; rw [if_pos rfl] at h; rw [hk]; exact h
      · rw [if_neg e] at h; exact ih h

theorem ER.keep {tmps : Array Value} (er : ER C N env tmps) (ks : List Nat) : ER C N (keepE ks env) tmps :=
  ⟨er.size, fun s x h => er.at_ s x (look_keepE ks env s x h)⟩

theorem look_params (asl : List AV) (i s : Nat) (x : AV) (h : look (params i asl) s = some x) : i ≤ s ∧ asl[s - i]? = some x := by
  induction asl generalizing i with
  | nil => simp [params, look] at h
  | cons v asl ih =>
    simp only [params, look] at h
    by_cases e : i = s
    · subst e; simp at h; simp [h]
    · rw [if_neg e] at h
      obtain ⟨h1, h2⟩ := ih _ h
      refine ⟨by omega, ?_⟩
      rw [show s - i = (s - (i + 1)) + 1 by omega]
      simpa using h2

theorem ER.params {asl : List AV} {vs : List Value} (h : VRs C asl vs) (hn : vs.length ≤ N) : ER C N (params 0 asl) (vs.toArray ++ Array.replicate (N - vs.length) undef) := by
  refine ⟨by simp; omega, fun s x hs => ?_⟩
  obtain ⟨_, h2⟩ := look_params _ _ _ _ hs
  obtain ⟨v, k1, k2⟩ := h.get h2
  refine ⟨v, ?_, k2⟩
  have hlt : s < vs.length := by
    have := (List.getElem?_eq_some_iff.1 k1).1; simpa using this
  rw [Array.getElem?_append_left (by simpa using hlt)]
  simpa using k1
end

end Go.Pm
end

section
set_option linter.unusedSimpArgs false
set_option linter.unusedVariables false
set_option linter.unusedSectionVars false
/- The pure machine: the operations that leave the world alone. -/
set_option linter.unusedSimpArgs false
namespace Go.Pm
open Go.RowKit (Below)

theorem run_typeInfo {P : Program} {t : TypeId} {i : TypeInfo} (h : P.info? t = some i) (w : World) : (typeInfo t).run P w = .ok i w := by simp [typeInfo, h]
theorem run_sizeOf {P : Program} {t : TypeId} {n : Nat} (h : sizeIs P t n = true) (w : World) : (sizeOf t).run P w = .ok n w := by
  unfold sizeIs at h
  split at h
  · rename_i i hi
    rw [← eq_of_beq h]
    simp [sizeOf, run_typeInfo hi]
  · cases h
theorem run_zeroValue {P : Program} {t : TypeId} {i : TypeInfo} {z : Value} (h : P.info? t = some i) (hz : i.zero = some z) (w : World) : (zeroValue t).run P w = .ok z w := by
  simp [zeroValue, run_typeInfo h, hz]
theorem run_isAgg {P : Program} {t : TypeId} (h : (P.underlying t).isSome = true) (w : World) : (isAgg t).run P w = .ok (aggB P t) w := by
  obtain ⟨d, hd⟩ := Option.isSome_iff_exists.1 h
  unfold aggB
  simp only [isAgg, Sem.run_bind, run_underlying hd, Result.andThen_ok, hd]
  cases d <;> rfl
theorem zeroIs_parts {P : Program} {t : TypeId} {cs : List AV} (h : zeroIs P t cs = true) (C : Ctx) : ∃ z, (∀ w, (zeroValue t).run P w = .ok z w) ∧ VRs C cs z.cells.toList := by
  unfold zeroIs at h
  split at h
  · rename_i i hi
    split at h
    · rename_i z hz
      exact ⟨z, run_zeroValue hi hz, okConsts_sound h⟩
    · cases h
  · cases h

/-- What an operation comes to. -/
def Goes (P : Program) (B : Nat) (C : Ctx) (σ' : Store) (w : World) (o : Oper) (a : Act) (av : AV) : Prop :=
  ∃ C' w' v, (((execOp a.eval o).run P w = .ok (.value v) w') ∨ ((execOp a.eval o).run P w = .ok .skip w' ∧ v = undef)) ∧ Ctx.le B C C' ∧ SR B C' σ' w' ∧ Below B w w' ∧ VR C' av v

theorem Goes.same {P : Program} {B : Nat} {C : Ctx} {σ : Store} {w : World} {o : Oper} {a : Act} {av : AV} (sr : SR B C σ w) {v : Value}
    (h : (execOp a.eval o).run P w = .ok (.value v) w) (hv : VR C av v) : Goes P B C σ w o a av :=
  ⟨C, w, v, .inl h, .refl _ _, sr, .refl _ _, hv⟩

theorem val_some {σ σ' : Store} {x : Option AV} {r : AOut} (h : val σ x = some (r, σ')) : ∃ v, x = some v ∧ r = .ret v ∧ σ' = σ := by
  unfold val at h
  split at h
  · cases h; exact ⟨_, rfl, rfl, rfl⟩
  · cases h

theorem str_eq {s : List UInt8} : (ByteArray.mk s.toArray).toList = s := by
  rw [ByteArray.toList_eq]

section
variable {P : Program}

theorem intBin_sound {op : BinOp} {k : IntKind} {x y : Int} {av : AV} (h : intBin op k x y = some av) (C : Ctx) (t : TypeId) (w : World) :
    ∃ v, (binOp op t (.int k x) (.int k y)).run P w = .ok v w ∧ VR C av v := by
  cases op <;> simp only [intBin, wrapI] at h
  case quo =>
    split at h
    · cases h
    · rename_i hy
      cases h
      exact ⟨_, by simp [binOp, Op.intDiv, hy], .int⟩
  case rem =>
    split at h
    · cases h
    · rename_i hy
      cases h
      exact ⟨_, by simp [binOp, Op.intDiv, hy], .int⟩
  all_goals first
    | (cases h; done)
    | (cases h; exact ⟨_, by simp only [binOp, Op.intArith, Op.intBits, Op.intCmp, if_neg (fun e : k ≠ k => e rfl)]; rfl, .int⟩)
    | (cases h; exact ⟨_, by simp only [binOp, Op.intArith, Op.intBits, Op.intCmp, if_neg (fun e : k ≠ k => e rfl)]; rfl, .bool⟩)

theorem shiftBin_sound {op : BinOp} {k k' : IntKind} {x y : Int} {av : AV} (hop : op = .shl ∨ op = .shr) (h : shiftBin op k x y = some av) (C : Ctx) (t : TypeId) (w : World) :
    ∃ v, (binOp op t (.int k x) (.int k' y)).run P w = .ok v w ∧ VR C av v := by
  unfold shiftBin at h
  split at h
  · cases h
  · rename_i hy
    rcases hop with rfl | rfl
    · simp only [wrapI, Option.some.injEq] at h; subst h
      exact ⟨_, by simp [binOp, Op.shift, hy], .int⟩
    · simp only [Option.some.injEq] at h; subst h
      exact ⟨_, by simp [binOp, Op.shift, hy], .int⟩

theorem strBin_sound {op : BinOp} {x y : List UInt8} {av : AV} (h : strBin op x y = some av) (C : Ctx) (t : TypeId) (w : World) :
    ∃ v, (binOp op t (.string ⟨x.toArray⟩) (.string ⟨y.toArray⟩)).run P w = .ok v w ∧ VR C av v := by
  cases op <;> simp only [strBin] at h
  case add =>
    split at h
    · rename_i hl
      cases h
      have hs : (ByteArray.mk x.toArray).size = x.length := by simp [ByteArray.size]
      have hs' : (ByteArray.mk y.toArray).size = y.length := by simp [ByteArray.size]
      have hm : ¬ (((ByteArray.mk x.toArray).size + (ByteArray.mk y.toArray).size : Nat) : Int) > IntKind.i64.max := by
        rw [hs, hs']
        have : IntKind.i64.max = 9223372036854775807 := by decide
        rw [this]; omega
      have he : ByteArray.mk x.toArray ++ ByteArray.mk y.toArray = ByteArray.mk (x ++ y).toArray := by
        apply ByteArray.ext
        simp
      exact ⟨_, by simp only [binOp, Op.stringOp, if_neg hm]; rw [he]; rfl, .str⟩
    · cases h
  all_goals first
    | (cases h; done)
    | (cases h; exact ⟨_, by simp only [binOp, Op.stringOp, str_eq]; rfl, .bool⟩)

theorem fltBin_sound {op : BinOp} {k : FloatKind} {x y : Nat} {av : AV} (h : fltBin op k x y = some av) (C : Ctx) (t : TypeId) (w : World) :
    ∃ v, (binOp op t (.float k x) (.float k y)).run P w = .ok v w ∧ VR C av v := by
  cases op <;> simp only [fltBin, Option.map_eq_some_iff] at h
  case add => obtain ⟨r, hr, rfl⟩ := h; exact ⟨_, by simp [binOp, Op.floatArith, hr], .flt⟩
  case sub => obtain ⟨r, hr, rfl⟩ := h; exact ⟨_, by simp [binOp, Op.floatArith, hr], .flt⟩
  case mul => obtain ⟨r, hr, rfl⟩ := h; exact ⟨_, by simp [binOp, Op.floatArith, hr], .flt⟩
  case quo => obtain ⟨r, hr, rfl⟩ := h; exact ⟨_, by simp [binOp, Op.floatArith, hr], .flt⟩
  all_goals first
    | (cases h; done)
    | (cases h; exact ⟨_, by simp only [binOp, Op.floatCmp, if_neg (fun e : k ≠ k => e rfl)]; rfl, .bool⟩)

theorem cpxBin_sound {op : BinOp} {k : FloatKind} {x y x' y' : Nat} {av : AV} (h : cpxBin op k x y x' y' = some av) (C : Ctx) (t : TypeId) (w : World) :
    ∃ v, (binOp op t (.complex k x y) (.complex k x' y')).run P w = .ok v w ∧ VR C av v := by
  cases op <;> simp only [cpxBin] at h
  case eql => cases h; exact ⟨_, by simp [binOp, Op.complexOp, Op.Complex.cmp, Op.floatCmp, asBool], .bool⟩
  case neq => cases h; exact ⟨_, by simp [binOp, Op.complexOp, Op.Complex.cmp, Op.floatCmp, asBool], .bool⟩
  all_goals cases h

theorem binA_sound {op : BinOp} {x y : AV} {v u : Value} {av : AV} (h : binA op x y = some av) {C : Ctx} (hx : VR C x v) (hy : VR C y u) (t : TypeId) (p q : Operand) (w : World) :
    ∃ r, (do eqGuard op t p q v u; binOp op t v u : Sem Value).run P w = .ok r w ∧ VR C av r := by
  unfold binA at h
  split at h
  · cases hx; cases hy
    rename_i k a k' b
    have he : ∀ w, (eqGuard op t p q (.int k a) (.int k' b)).run P w = .ok () w := by
      intro w; cases op <;> simp [eqGuard]
    split at h
    · obtain ⟨r, h1, h2⟩ := shiftBin_sound (P := P) (k' := k') (.inl rfl) h C t w
      exact ⟨r, by simp only [Sem.run_bind, he, Result.andThen_ok]; exact h1, h2⟩
    · obtain ⟨r, h1, h2⟩ := shiftBin_sound (P := P) (k' := k') (.inr rfl) h C t w
      exact ⟨r, by simp only [Sem.run_bind, he, Result.andThen_ok]; exact h1, h2⟩
    · split at h
      · rename_i hk; subst hk
        obtain ⟨r, h1, h2⟩ := intBin_sound (P := P) h C t w
        exact ⟨r, by simp only [Sem.run_bind, he, Result.andThen_ok]; exact h1, h2⟩
      · cases h
  · cases hx; cases hy
    rename_i a b
    have he : ∀ w, (eqGuard op t p q (.string ⟨a.toArray⟩) (.string ⟨b.toArray⟩)).run P w = .ok () w := by
      intro w; cases op <;> simp [eqGuard]
    obtain ⟨r, h1, h2⟩ := strBin_sound (P := P) h C t w
    exact ⟨r, by simp only [Sem.run_bind, he, Result.andThen_ok]; exact h1, h2⟩
  · cases hx; cases hy
    rename_i k a k' b
    have he : ∀ w, (eqGuard op t p q (.float k a) (.float k' b)).run P w = .ok () w := by
      intro w; cases op <;> simp [eqGuard]
    split at h
    · rename_i hk; subst hk
      obtain ⟨r, h1, h2⟩ := fltBin_sound (P := P) h C t w
      exact ⟨r, by simp only [Sem.run_bind, he, Result.andThen_ok]; exact h1, h2⟩
    · cases h
  · cases hx; cases hy
    rename_i k a b k' c d
    have he : ∀ w, (eqGuard op t p q (.complex k a b) (.complex k' c d)).run P w = .ok () w := by
      intro w; cases op <;> simp [eqGuard]
    split at h
    · rename_i hk; subst hk
      obtain ⟨r, h1, h2⟩ := cpxBin_sound (P := P) h C t w
      exact ⟨r, by simp only [Sem.run_bind, he, Result.andThen_ok]; exact h1, h2⟩
    · cases h
  · cases h

/-- A part of an aggregate. -/
theorem partOf_sound {C : Ctx} {cs : List AV} {vs : List Value} (r : VRs C cs vs) {off : Nat} {n : Option Nat} {av : AV} (h : partOf cs off n = some av) {t : TypeId} (ht : readIs P t n = true) (w : World) :
    ∃ v, (part t vs.toArray off).run P w = .ok v w ∧ VR C av v := by
  unfold readIs at ht
  simp only [Bool.and_eq_true] at ht
  obtain ⟨hu, ht⟩ := ht
  cases n with
  | none =>
    simp only [partOf] at h
    obtain ⟨v, k1, k2⟩ := r.get h
    refine ⟨v, ?_, k2⟩
    have hagg : aggB P t = false := by simpa using ht
    simp [part, run_isAgg hu, hagg, k1]
  | some n =>
    simp only [partOf] at h
    split at h
    · cases h
      simp only [Bool.and_eq_true] at ht
      refine ⟨.agg ((vs.drop off).take n).toArray, ?_, .agg (by simp [r.len]) ((r.drop off).take n).at_⟩
      have he : (vs.toArray.extract off (off + n)) = ((vs.drop off).take n).toArray := by
        apply Array.ext'
        simp [List.extract_eq_take_drop]
      simp only [part, Sem.run_bind, run_isAgg hu, Result.andThen_ok, ht.1, if_true, run_sizeOf ht.2, Sem.run_pure, he]
    · cases h
end

end Go.Pm
end

section
set_option linter.unusedSimpArgs false
set_option linter.unusedVariables false
set_option linter.unusedSectionVars false
/- The pure machine: '==' by the type. -/
set_option linter.unusedSimpArgs false
namespace Go.Pm
open Go.RowKit (Below)

section
variable {P : Program}

def eqElems (d : Nat) (e : TypeId) (sz : Nat) (xs ys : Array Value) : List Nat → Sem Bool
  | [] => pure true
  | i :: is => do
    let a ← part e xs (i * sz)
    let b ← part e ys (i * sz)
    let r ← Op.equalIn d e a b
    if (!r) = true then pure false else eqElems d e sz xs ys is

theorem run_equalIn_arr (d len sz : Nat) (e : TypeId) (xs ys : Array Value) (w : World) (hn : ∀ w, (sizeOf e).run P w = .ok sz w) (t : TypeId) (ht : P.underlying t = some (.array len e)) :
    (Op.equalIn (d + 1) t (.agg xs) (.agg ys)).run P w = (eqElems d e sz xs ys (List.range' 0 len)).run P w := by
  simp only [Op.equalIn, Sem.run_bind, run_underlying ht, Result.andThen_ok, hn, Std.Legacy.Range.forIn_eq_forIn_range', Std.Legacy.Range.size, Nat.sub_zero, Nat.add_sub_cancel, Nat.div_one]
  generalize List.range' 0 len = is
  induction is generalizing w with
  | nil => simp [eqElems]
  | cons i is ih =>
    simp only [List.forIn_cons, eqElems, Sem.run_bind, Sem.run_ite]
    generalize (part e xs (i * sz)).run P w = r1
    cases r1 with
    | ok a w1 =>
      simp only [Result.andThen_ok]
      generalize (part e ys (i * sz)).run P w1 = r2
      cases r2 with
      | ok b w2 =>
        simp only [Result.andThen_ok]
        generalize (Op.equalIn d e a b).run P w2 = r3
        cases r3 with
        | ok r w3 =>
          cases r
          · simp only [Result.andThen_ok, Bool.not_false, if_true, Sem.run_pure]
          · simp only [Result.andThen_ok, Bool.not_true, Bool.false_eq_true, if_false, Sem.run_pure]
            exact ih w3
        | halt x w3 => simp [Result.andThen]
      | halt x w2 => simp [Result.andThen]
    | halt x w1 => simp [Result.andThen]

theorem part_cases {C : Ctx} {xs : List AV} {vs : List Value} (r : VRs C xs vs) {f : TypeId} {off sz : Nat} {ag : Bool} (hs : sizeIs P f sz = true) (hu : (P.underlying f).isSome = true) (ha : aggB P f = ag)
    {x : AV} (h : partOf xs off (if ag then some sz else none) = some x) (w : World) : ∃ v, (part f vs.toArray off).run P w = .ok v w ∧ VR C x v := by
  refine partOf_sound r h (n := if ag then some sz else none) ?_ w
  unfold readIs
  subst ha
  cases hb : aggB P f <;> simp [hu, hb, hs]

theorem beqL_sound {a b : List UInt8} : ((ByteArray.mk a.toArray).toList == (ByteArray.mk b.toArray).toList) = (a == b) := by rw [str_eq, str_eq]

theorem VR.agg_inv {C : Ctx} {cs : List AV} {v : Value} (h : VR C (.agg cs) v) : ∃ vs : List Value, v = .agg vs.toArray ∧ VRs C cs vs := by
  cases h with
  | agg hl h => exact ⟨_, rfl, hl, h⟩

theorem okSk_inv {td : TypeDesc} {k : SK} (h : okSk td k = true) : (k = .b ∧ td = .bool) ∨ (k = .i ∧ ∃ i, td = .int i) ∨ (k = .f ∧ ∃ i, td = .float i) ∨ (k = .c ∧ ∃ i, td = .complex i) ∨ (k = .s ∧ td = .string) ∨ (k = .p ∧ ∃ i, td = .pointer i) ∨ (k = .fn ∧ ∃ i j l, td = .func i j l) ∨ (k = .n ∧ ∃ i, td = .interface i) := by
  cases k <;> cases td <;> simp [okSk] at h <;> simp

theorem eqCell_sound {k : SK} {C : Ctx} {x y : AV} {v u : Value} {b : Bool} (h : eqCell k x y = some b) (hx : VR C x v) (hy : VR C y u) {t : TypeId} {td : TypeDesc} (ht : P.underlying t = some td) (hk : okSk td k = true) (D : Nat) (w : World) :
    (Op.equalIn (D + 1) t v u).run P w = .ok b w := by
  rcases okSk_inv hk with ⟨rfl, rfl⟩ | ⟨rfl, i, rfl⟩ | ⟨rfl, i, rfl⟩ | ⟨rfl, i, rfl⟩ | ⟨rfl, rfl⟩ | ⟨rfl, i, rfl⟩ | ⟨rfl, i, j, l, rfl⟩ | ⟨rfl, i, rfl⟩ <;> clear hk
  · unfold eqCell at h
    split at h <;> first | (rename_i e; cases e; done) | skip
    · cases hx; cases hy; cases h
      simp [Op.equalIn, run_underlying ht]
    · cases h
  · unfold eqCell at h
    split at h <;> first | (rename_i e; cases e; done) | skip
    · cases hx; cases hy
      split at h
      · rename_i e; subst e; cases h; simp [Op.equalIn, run_underlying ht]
      · cases h
    · cases h
  · unfold eqCell at h
    split at h <;> first | (rename_i e; cases e; done) | skip
    · cases hx; cases hy
      split at h
      · rename_i e; subst e; cases h; simp [Op.equalIn, run_underlying ht, Op.floatEq]
      · cases h
    · cases h
  · unfold eqCell at h
    split at h <;> first | (rename_i e; cases e; done) | skip
    · cases hx; cases hy
      split at h
      · rename_i e; subst e; cases h; simp [Op.equalIn, run_underlying ht, Op.floatEq]
      · cases h
    · cases h
  · unfold eqCell at h
    split at h <;> first | (rename_i e; cases e; done) | skip
    · cases hx; cases hy; cases h
      simp [Op.equalIn, run_underlying ht, beq_toListBytes, str_eq]
    · cases h
  · unfold eqCell at h
    split at h <;> first | (rename_i e; cases e; done) | skip
    all_goals first | (cases h; done) | (cases hx; cases hy; cases h; simp [Op.equalIn, run_underlying ht]; done)
  · unfold eqCell at h
    split at h <;> first | (rename_i e; cases e; done) | skip
    all_goals first | (cases h; done) | (cases hx; cases hy; cases h; simp [Op.equalIn, run_underlying ht]; done)
  · unfold eqCell at h
    split at h <;> first | (rename_i e; cases e; done) | skip
    all_goals first | (cases h; done) | (cases hx; cases hy; cases h; simp [Op.equalIn, run_underlying ht]; done)

theorem eqArr_sound {C : Ctx} {D sz : Nat} {e : TypeId} {ag : Bool} {d : EqD} (hs : sizeIs P e sz = true) (hu : (P.underlying e).isSome = true) (ha : aggB P e = ag) {xs ys : List AV} {vs us : List Value} (hx : VRs C xs vs) (hy : VRs C ys us) (w : World)
    (ih : ∀ x y v u b, eqA d x y = some b → VR C x v → VR C y u → (Op.equalIn D e v u).run P w = .ok b w) :
    ∀ (len i : Nat) (b : Bool), eqArr (fun x y => eqA d x y) sz ag xs ys len i = some b → (eqElems D e sz vs.toArray us.toArray (List.range' i len)).run P w = .ok b w := by
  intro len
  induction len with
  | zero => intro i b h; simp only [eqArr, Option.some.injEq] at h; subst h; simp [eqElems]
  | succ len ihl =>
    intro i b h
    simp only [eqArr] at h
    rw [List.range'_succ]
    split at h
    · rename_i x y hpx hpy
      obtain ⟨v, k1, k2⟩ := part_cases hx hs hu ha hpx w
      obtain ⟨u, k3, k4⟩ := part_cases hy hs hu ha hpy w
      simp only [eqElems, Sem.run_bind, k1, k3, Result.andThen_ok]
      split at h
      · rename_i he
        rw [ih _ _ _ _ _ he k2 k4]
        simp only [Result.andThen_ok, Bool.not_true, Bool.false_eq_true, if_false]
        exact ihl _ _ h
      · rename_i he
        cases h
        rw [ih _ _ _ _ _ he k2 k4]
        simp
      · cases h
    · cases h

theorem eq_both (C : Ctx) (w : World) : ∀ n, (∀ t d, okEq P n t d = true → ∀ x y v u b, eqA d x y = some b → VR C x v → VR C y u → ∀ D, n ≤ D → (Op.equalIn D t v u).run P w = .ok b w) ∧
    (∀ fs ds, okEqs P n fs ds = true → ∀ xs ys vs us b, eqFields ds xs ys = some b → VRs C xs vs → VRs C ys us → ∀ D, n ≤ D → (Op.eqFields D vs.toArray us.toArray fs).run P w = .ok b w) := by
  intro n
  induction n with
  | zero => exact ⟨fun t d h => by simp [okEq] at h, fun fs ds h => by simp [okEqs] at h⟩
  | succ n ih =>
    constructor
    · intro t d hok x y v u b h hx hy D hD
      obtain ⟨D, rfl⟩ : ∃ m, D = m + 1 := ⟨D - 1, by omega⟩
      simp only [okEq] at hok
      split at hok
      · rename_i td k ht
        simp only [eqA] at h
        exact eqCell_sound h hx hy ht hok D w
      · rename_i fs ds ht
        simp only [Bool.and_eq_true, Bool.not_eq_true'] at hok
        unfold eqA at h
        split at h
        · rename_i e; cases e
        · rename_i xs ys e
          cases e
          obtain ⟨vs, rfl, rx⟩ := hx.agg_inv
          obtain ⟨us, rfl, ry⟩ := hy.agg_inv
          have hf : P.fieldsOf t = fs := by simp [Program.fieldsOf, ht]
          rw [run_equalIn_struct w D t _ _ (by rw [hf]; exact ht) hok.1, hf]
          exact ih.2 _ _ hok.2 _ _ _ _ _ h rx ry D (by omega)
        · rename_i e; cases e
        · cases h
      · rename_i len e len' sz ag d ht
        simp only [Bool.and_eq_true, beq_iff_eq] at hok
        obtain ⟨⟨⟨⟨rfl, h2⟩, h3⟩, h4⟩, h5⟩ := hok
        unfold eqA at h
        split at h
        · rename_i e; cases e
        · rename_i e; cases e
        · rename_i xs ys e
          cases e
          obtain ⟨vs, rfl, rx⟩ := hx.agg_inv
          obtain ⟨us, rfl, ry⟩ := hy.agg_inv
          rw [run_equalIn_arr D len sz e _ _ w (run_sizeOf h2) t ht]
          exact eqArr_sound h2 h3 h4 rx ry w (fun x y v u b he hx hy => ih.1 _ _ h5 x y v u b he hx hy D (by omega)) len 0 b h
        · cases h
      · cases hok
    · intro fs ds hok xs ys vs us b h hx hy D hD
      unfold okEqs at hok
      split at hok
      · cases hok
      · simp only [eqFields, Option.some.injEq] at h; subst h; simp [Op.eqFields]
      · rename_i f fs off sz ag d ds e
        cases e
        simp only [Bool.and_eq_true, bne_iff_ne, beq_iff_eq] at hok
        obtain ⟨⟨⟨⟨⟨⟨h1, rfl⟩, h3⟩, h4⟩, h5⟩, h6⟩, h7⟩ := hok
        simp only [eqFields] at h
        split at h
        · rename_i x y hpx hpy
          obtain ⟨v, k1, k2⟩ := part_cases hx h3 h4 h5 hpx w
          obtain ⟨u, k3, k4⟩ := part_cases hy h3 h4 h5 hpy w
          simp only [Op.eqFields, Sem.run_ite, if_pos h1, Sem.run_bind, k1, k3, Result.andThen_ok]
          split at h
          · rename_i he
            rw [ih.1 _ _ h6 _ _ _ _ _ he k2 k4 D (by omega)]
            simp only [Result.andThen_ok, Bool.not_true, Bool.false_eq_true, if_false]
            exact ih.2 _ _ h7 _ _ _ _ _ h hx hy D (by omega)
          · rename_i he
            cases h
            rw [ih.1 _ _ h6 _ _ _ _ _ he k2 k4 D (by omega)]
            simp
          · cases h
        · cases h
      · cases hok
end
end Go.Pm
end

section
set_option linter.unusedSimpArgs false
set_option linter.unusedVariables false
set_option linter.unusedSectionVars false
/- The pure machine: worlds that grow and are written to. -/
set_option linter.unusedSimpArgs false
set_option linter.unusedVariables false
namespace Go.Pm
open Go.RowKit (Below)

theorem add_plain (b o n : Nat) : (⟨b, o, none⟩ : Addr).add n = ⟨b, o + n, none⟩ := by
  unfold Addr.add; split <;> simp_all

/-- What is known behind writes into one block. -/
structure Wrote (w w' : World) (b : Nat) (c c' : Array Value) (e : TypeId) (fr : Nat × Nat) : Prop where
  os : w'.os = w.os
  tape : w'.tape = w.tape
  output : w'.output = w.output
  size : w'.heap.size = w.heap.size
  here : w'.heap[b]? = some (.cells c' e fr)
  else_ : ∀ k, k ≠ b → w'.heap[k]? = w.heap[k]?
  csize : c'.size = c.size

theorem cell_of_row {w : World} {b o : Nat} {c : Array Value} {e fr} (h : w.heap[b]? = some (.cells c e fr)) : w.cell? ⟨b, o, none⟩ = c[o]? := by
  simp [World.cell?, h]
theorem frozen_of_row {w : World} {b o : Nat} {c : Array Value} {e : TypeId} {fr : Nat × Nat} (h : w.heap[b]? = some (.cells c e fr)) : w.frozen? ⟨b, o, none⟩ = decide (fr.1 ≤ o ∧ o < fr.2) := by
  obtain ⟨lo, hi⟩ := fr
  simp [World.frozen?, h]

theorem setCell_row {w : World} {b o : Nat} {c : Array Value} {e : TypeId} {fr : Nat × Nat} {v : Value} (h : w.heap[b]? = some (.cells c e fr)) :
    Wrote w (w.setCell ⟨b, o, none⟩ v) b c (c.setIfInBounds o v) e fr := by
  refine ⟨rfl, rfl, rfl, by simp, ?_, fun k hk => ?_, by simp⟩
  · simp only [World.setCell, Array.getElem?_modify, if_true, h]; rfl
  · simp [World.setCell, Array.getElem?_modify, Ne.symm hk]

theorem run_storeCells {P : Program} {b : Nat} {e : TypeId} {fr : Nat × Nat} (o : Nat) : ∀ (vs : List Value) (i : Nat) (c : Array Value) (w : World), w.heap[b]? = some (.cells c e fr) → o + i + vs.length ≤ c.size → (∀ v, v ∈ vs → v.oneCell' = true) →
    (∀ k, o + i ≤ k → k < o + i + vs.length → ¬ (fr.1 ≤ k ∧ k < fr.2)) →
    ∃ w' c', (storeCells ⟨b, o, none⟩ vs i).run P w = .ok () w' ∧ Wrote w w' b c c' e fr ∧ ∀ k, c'[k]? = if o + i ≤ k ∧ k < o + i + vs.length then vs[k - (o + i)]? else c[k]? := by
  intro vs
  induction vs with
  | nil =>
    intro i c w h _ _ _
    refine ⟨w, c, by simp [storeCells], ⟨rfl, rfl, rfl, rfl, h, fun _ _ => rfl, rfl⟩, fun k => ?_⟩
    rw [if_neg (by simp only [List.length_nil]; omega)]
  | cons v vs ih =>
    intro i c w h hl h1 hf
    simp only [List.length_cons] at hl hf
    have hc : (w.cell? ⟨b, o + i, none⟩) = c[o + i]? := cell_of_row h
    have hfz : w.frozen? ⟨b, o + i, none⟩ = false := by
      rw [frozen_of_row h]
      exact decide_eq_false (hf (o + i) (by omega) (by omega))
    have hw := setCell_row (o := o + i) (v := v) h
    obtain ⟨w', c', k1, k2, k3⟩ := ih (i + 1) (c.setIfInBounds (o + i) v) (w.setCell ⟨b, o + i, none⟩ v) hw.here (by simp; omega) (fun u hu => h1 u (by simp [hu])) (fun k ha hb => hf k (by omega) (by omega))
    refine ⟨w', c', ?_, ⟨k2.os.trans hw.os, k2.tape.trans hw.tape, k2.output.trans hw.output, k2.size.trans hw.size, k2.here, fun k hk => (k2.else_ k hk).trans (hw.else_ k hk), k2.csize.trans hw.csize⟩, fun k => ?_⟩
    · simp only [storeCells, Sem.run_bind, add_plain]
      rw [run_store P w _ v .plain (h1 v (by simp)), hc, Array.getElem?_eq_getElem (show o + i < c.size by omega)]
      simp only [hfz, Bool.false_eq_true, if_false, Result.andThen_ok]
      exact k1
    · rw [k3 k, List.length_cons]
      by_cases e0 : k = o + i
      · subst e0
        rw [if_neg (by omega), if_pos (by omega)]
        simp [show o + i < c.size by omega]
      · rw [Array.getElem?_setIfInBounds]
        rw [if_neg (Ne.symm e0)]
        by_cases e1 : o + (i + 1) ≤ k ∧ k < o + (i + 1) + vs.length
        · rw [if_pos e1, if_pos (by omega)]
          rw [show k - (o + i) = (k - (o + (i + 1))) + 1 by omega]
          simp
        · rw [if_neg e1, if_neg (by omega)]

theorem Below.of_wrote {B : Nat} {w w' : World} {b : Nat} {c c' : Array Value} {e : TypeId} {fr : Nat × Nat} (h : Wrote w w' b c c' e fr) (hb : B ≤ b) : Below B w w' :=
  ⟨h.os, h.tape, h.output, Nat.le_of_eq h.size.symm, fun k hk => h.else_ k (by omega)⟩

theorem lt_of_row {w : World} {b : Nat} {o : Obj} (h : w.heap[b]? = some o) : b < w.heap.size := (Array.getElem?_eq_some_iff.1 h).1

section
variable {B : Nat} {C : Ctx} {σ : Store} {w : World}

theorem heap_alloc_new (w : World) (o : Obj) : (w.alloc o).heap[w.heap.size]? = some o := by
  show (w.heap.push o)[w.heap.size]? = _
  simp

theorem Below.newBlock (hB : B ≤ w.heap.size) (o : Obj) : Below B w (w.alloc o) := (Below.refl B w).alloc hB o

/-- A new box, where none was. -/
theorem SR.newBoxAt (h : SR B C σ w) {σ' : Store} {n : Nat} {cs : List AV} {c : Array Value} {e : Option TypeId} {e0 : TypeId} {fr : Nat × Nat} (he0 : ∀ t, e = some t → e0 = t ∧ c.size = cs.length) (hn : free σ n) (hs : σ'[n]? = some (.cells cs e)) (ho : ∀ j, j ≠ n → σ'[j]? = σ[j]?)
    (hc : VRs C cs (c.toList.take cs.length)) (hl : cs.length ≤ c.size) (hf : ∀ o, o < cs.length → ¬ (fr.1 ≤ o ∧ o < fr.2)) :
    ∃ C', Ctx.le B C C' ∧ SR B C' σ' (w.alloc (.cells c e0 fr)) ∧ C'.bx n = some w.heap.size ∧ Ctx.le w.heap.size C C' := by
  let C' : Ctx := { C with bx := fun i => if i = n then some w.heap.size else C.bx i }
  have hbx : ∀ i b, C.bx i = some b → C'.bx i = some b := by
    intro i b k
    simp only [C']
    rw [if_neg]
    · exact k
    · intro e; subst e; rw [(h.fresh _ hn).1] at k; cases k
  have hle : ∀ B', Ctx.le B' C C' := fun B' => ⟨fun _ _ _ k => k, hbx, fun _ _ k => k, fun _ _ _ => rfl⟩
  have hsame := h.of_same (w' := w.alloc (.cells c e0 fr)) (by simp) (fun b hb => Below.heap_alloc w _ b hb)
  have get : ∀ (id : Nat) x, σ'[id]? = some x → (id ≠ n ∧ σ[id]? = some x) ∨ (id = n ∧ x = .cells cs e) := by
    intro id x hx
    by_cases hid : id = n
    · subst hid; rw [hs] at hx; cases hx; exact .inr ⟨rfl, rfl⟩
    · rw [ho _ hid] at hx; exact .inl ⟨hid, hx⟩
  have ownOld : ∀ (id b : Nat), own C' σ' id = some b → (id ≠ n ∧ own C σ id = some b) ∨ (id = n ∧ b = w.heap.size) := by
    intro id b hb
    unfold own at hb
    by_cases hid : id = n
    · subst hid
      rw [hs] at hb
      simp [C'] at hb
      exact .inr ⟨rfl, hb.symm⟩
    · rw [ho _ hid] at hb
      refine .inl ⟨hid, ?_⟩
      unfold own
      simpa [C', hid] using hb
  have ownLt : ∀ id b, own C σ id = some b → b < w.heap.size := by
    intro id b hb
    unfold own at hb
    split at hb
    · rename_i cs' e'' hg
      obtain ⟨b', c', fr', e0', k1, k2, _⟩ := h.cells _ _ _ hg
      rw [k1] at hb; cases hb
      exact lt_of_row k2
    · rename_i hg; exact (h.map _ _ hg).elim
    · rename_i hg
      obtain ⟨b', s, e, c', fr', k1, k2, _⟩ := h.tok _ _ hg
      rw [k1] at hb; simp at hb; subst hb
      exact lt_of_row k2
    · cases hb
  refine ⟨C', hle B, ⟨hsame.hB, ?_, ?_, ?_, ?_, ?_, ?_, ?_⟩, by simp [C'], hle _⟩
  · exact hsame.im
  · intro id hid
    have hne : id ≠ n := by intro e1; subst e1; unfold free at hid; rw [hs] at hid; simp at hid
    unfold free at hid
    rw [ho _ hne] at hid
    have := h.fresh id hid
    exact ⟨by simp [C', hne, this.1], this.2⟩
  · intro id cs' e'' hg
    rcases get id _ hg with ⟨h1, h2⟩ | ⟨h1, h2⟩
    · obtain ⟨b, c', fr', e0', k1, k2, k3, k4, k5, k6⟩ := hsame.cells id _ _ h2
      exact ⟨b, c', fr', e0', by simp [C', h1, k1], k2, k3, k4.mono (hle B), k5, k6⟩
    · cases h2
      refine ⟨w.heap.size, c, fr, e0, by simp [C', h1], heap_alloc_new w _, hl, hc.mono (hle B), fun o => ?_, hf, he0⟩
      cases hi : C.im w.heap.size o with
      | none => rfl
      | some v =>
        obtain ⟨c', e', fr', k1, _⟩ := h.im _ _ _ hi
        exact absurd (lt_of_row k1) (by omega)
  · intro id es hg
    rcases get id _ hg with ⟨h1, h2⟩ | ⟨h1, h2⟩
    · exact h.map _ _ h2
    · cases h2
  · intro id t hg
    rcases get id _ hg with ⟨h1, h2⟩ | ⟨h1, h2⟩
    · exact hsame.tok id t h2
    · cases h2
  · intro id id' b h1 h2
    rcases ownOld id b h1 with ⟨a1, a2⟩ | ⟨a1, a2⟩ <;> rcases ownOld id' b h2 with ⟨b1, b2⟩ | ⟨b1, b2⟩
    · exact h.uniq _ _ _ a2 b2
    · have := ownLt _ _ a2; omega
    · have := ownLt _ _ b2; omega
    · omega
  · intro id b h1
    rcases ownOld id b h1 with ⟨a1, a2⟩ | ⟨a1, a2⟩
    · exact h.low _ _ a2
    · rw [a2]; exact h.hB

theorem free_new (σ : Store) : free σ σ.length := .inl (List.getElem?_eq_none (Nat.le_refl _))

theorem append_at (σ : Store) (x : AObj) (j : Nat) (h : j ≠ σ.length) : (σ ++ [x])[j]? = σ[j]? := by
  by_cases hlt : j < σ.length
  · rw [List.getElem?_append_left hlt]
  · rw [List.getElem?_eq_none (by simp; omega), List.getElem?_eq_none (by omega)]

theorem free_append {σ : Store} {x : AObj} {id : Nat} (hx : x ≠ .hole) (h : free (σ ++ [x]) id) : free σ id ∧ id ≠ σ.length := by
  by_cases e : id = σ.length
  · subst e; unfold free at h; simp at h; exact absurd h hx
  · unfold free at h ⊢; rw [append_at _ _ _ e] at h; exact ⟨h, e⟩

theorem free_set {σ : Store} {x : AObj} {k id : Nat} (hx : x ≠ .hole) (h : free (σ.set k x) id) : free σ id := by
  unfold free at h ⊢
  rw [List.getElem?_set] at h
  split at h
  · rename_i e; subst e
    split at h
    · simp at h; exact absurd h hx
    · rename_i hl; exact .inl (List.getElem?_eq_none (by omega))
  · exact h

/-- A new box. -/
theorem SR.newBox (h : SR B C σ w) {cs : List AV} {c : Array Value} {e : Option TypeId} {e0 : TypeId} {fr : Nat × Nat} (he0 : ∀ t, e = some t → e0 = t ∧ c.size = cs.length) (hc : VRs C cs (c.toList.take cs.length)) (hl : cs.length ≤ c.size) (hf : ∀ o, o < cs.length → ¬ (fr.1 ≤ o ∧ o < fr.2)) :
    ∃ C', Ctx.le B C C' ∧ SR B C' (σ ++ [.cells cs e]) (w.alloc (.cells c e0 fr)) ∧ C'.bx σ.length = some w.heap.size ∧ Ctx.le w.heap.size C C' :=
  h.newBoxAt he0 (free_new σ) (by simp) (fun j hj => append_at σ _ j hj) hc hl hf

theorem own_lt (h : SR B C σ w) {id b : Nat} (hb : own C σ id = some b) : b < w.heap.size := by
  unfold own at hb
  split at hb
  · rename_i cs' e'' hg
    obtain ⟨b', c', fr', e0', k1, k2, _⟩ := h.cells _ _ _ hg
    rw [k1] at hb; cases hb
    exact lt_of_row k2
  · rename_i hg; exact (h.map _ _ hg).elim
  · rename_i hg
    obtain ⟨b', s, e, c', fr', k1, k2, _⟩ := h.tok _ _ hg
    rw [k1] at hb; simp at hb; subst hb
    exact lt_of_row k2
  · cases hb

theorem im_new (h : SR B C σ w) (o : Nat) : C.im w.heap.size o = none := by
  cases hi : C.im w.heap.size o with
  | none => rfl
  | some v =>
    obtain ⟨c', e', fr', k1, _⟩ := h.im _ _ _ hi
    exact absurd (lt_of_row k1) (by omega)

/-- A new row that is never written. -/
theorem SR.newRow (h : SR B C σ w) {vs : List Value} {c : Array Value} {e : TypeId} {fr : Nat × Nat} (hc : ∀ (j : Nat) v, vs[j]? = some v → c[j]? = some v) :
    ∃ C', Ctx.le B C C' ∧ SR B C' σ (w.alloc (.cells c e fr)) ∧ (∀ (j : Nat) v, vs[j]? = some v → C'.im w.heap.size j = some v) ∧ (∀ j, vs.length ≤ j → C'.im w.heap.size j = none) ∧ C'.tk = C.tk ∧ C'.bx = C.bx := by
  let C' : Ctx := { C with im := fun b o => if b = w.heap.size then vs[o]? else C.im b o }
  have hle : Ctx.le B C C' := by
    refine ⟨fun b o v k => ?_, fun _ _ k => k, fun _ _ k => k, fun b o hb => ?_⟩
    · simp only [C']
      rw [if_neg]
      · exact k
      · intro e; subst e; rw [im_new h] at k; cases k
    · simp only [C']
      rw [if_neg]
      have := h.hB; omega
  have hsame := h.of_same (w' := w.alloc (.cells c e fr)) (by simp) (fun b hb => Below.heap_alloc w _ b hb)
  refine ⟨C', hle, ⟨hsame.hB, ?_, h.fresh, ?_, h.map, ?_, h.uniq, h.low⟩, ?_, ?_, rfl, rfl⟩
  · intro b o v k
    simp only [C'] at k
    split at k
    · rename_i hb; subst hb
      exact ⟨c, e, fr, heap_alloc_new w _, hc _ _ k⟩
    · exact hsame.im b o v k
  · intro id cs e' hg
    obtain ⟨b, c', fr', e0', k1, k2, k3, k4, k5, k6⟩ := h.cells id _ _ hg
    have hb := lt_of_row k2
    exact ⟨b, c', fr', e0', k1, by rw [Below.heap_alloc w _ b hb]; exact k2, k3, k4.mono hle, fun o => by simp [C', Nat.ne_of_lt hb, k5 o], k6⟩
  · intro id t hg
    obtain ⟨b, s, e, c', fr', k1, k2, k3, k4, k5⟩ := h.tok id t hg
    have hb := lt_of_row k2
    exact ⟨b, s, e, c', fr', k1, by rw [Below.heap_alloc w _ b hb]; exact k2, k3, fun o h1 h2 => by simp [C', Nat.ne_of_lt hb, k4 o h1 h2], k5⟩
  · intro j v hj; simp [C', hj]
  · intro j hj; simp [C']; omega

theorem getA (σ : Store) (x : AObj) (id : Nat) (y : AObj) (hx : (σ ++ [x])[id]? = some y) : (id < σ.length ∧ σ[id]? = some y) ∨ (id = σ.length ∧ y = x) := by
  rw [List.getElem?_append] at hx
  split at hx
  · exact .inl ⟨by assumption, hx⟩
  · rename_i hn
    have : id - σ.length = 0 := by
      rcases Nat.eq_zero_or_pos (id - σ.length) with h0 | h0
      · exact h0
      · rw [List.getElem?_eq_none (by simp; omega)] at hx; cases hx
    rw [this] at hx
    simp at hx
    exact .inr ⟨by omega, hx.symm⟩

/-- A new right to room. -/
theorem SR.newTok (h : SR B C σ w) {b s e : Nat} {c : Array Value} {t : TypeId} {fr : Nat × Nat} (hb : w.heap[b]? = some (.cells c t fr)) (he : e ≤ c.size)
    (hf : ∀ o, s ≤ o → o < e → C.im b o = none) (hfr : fr.1 = fr.2 ∨ fr.2 ≤ s) (hu : ∀ id, own C σ id ≠ some b) (hB : B ≤ b) :
    ∃ C', Ctx.le B C C' ∧ SR B C' (σ ++ [.tok t]) w ∧ C'.tk σ.length = some (b, s, e) ∧ C'.im = C.im ∧ C'.bx = C.bx := by
  let C' : Ctx := { C with tk := fun i => if i = σ.length then some (b, s, e) else C.tk i }
  have htk : ∀ i x, C.tk i = some x → C'.tk i = some x := by
    intro i x k
    simp only [C']
    rw [if_neg]
    · exact k
    · intro e; subst e; rw [(h.fresh _ (free_new σ)).2] at k; cases k
  have hle : Ctx.le B C C' := ⟨fun _ _ _ k => k, fun _ _ k => k, htk, fun _ _ _ => rfl⟩
  have ownOld : ∀ (id b' : Nat), own C' (σ ++ [AObj.tok t]) id = some b' → (id < σ.length ∧ own C σ id = some b') ∨ (id = σ.length ∧ b' = b) := by
    intro id b' hb
    unfold own at hb
    by_cases hlt : id < σ.length
    · rw [List.getElem?_append_left hlt] at hb
      refine .inl ⟨hlt, ?_⟩
      unfold own
      simpa [C', Nat.ne_of_lt hlt] using hb
    · cases hg : (σ ++ [AObj.tok t])[id]? with
      | none => rw [hg] at hb; cases hb
      | some x =>
        rcases getA _ _ id x hg with ⟨h1, _⟩ | ⟨h1, h2⟩
        · exact absurd h1 hlt
        · subst h2
          rw [hg] at hb
          simp [C', h1] at hb
          exact .inr ⟨h1, hb.symm⟩
  refine ⟨C', hle, ⟨h.hB, h.im, ?_, ?_, ?_, ?_, ?_, ?_⟩, by simp [C'], rfl, rfl⟩
  · intro id hid
    obtain ⟨hid, hne⟩ := free_append (by simp) hid
    have := h.fresh id hid
    exact ⟨this.1, by simp [C', hne, this.2]⟩
  · intro id cs' e'' hg
    rcases getA _ _ id _ hg with ⟨h1, h2⟩ | ⟨h1, h2⟩
    · obtain ⟨b, c', fr', e0', k1, k2, k3, k4, k5, k6⟩ := h.cells id _ _ h2
      exact ⟨b, c', fr', e0', k1, k2, k3, k4.mono hle, k5, k6⟩
    · cases h2
  · intro id es hg
    rcases getA _ _ id _ hg with ⟨h1, h2⟩ | ⟨h1, h2⟩
    · exact h.map _ _ h2
    · cases h2
  · intro id t' hg
    rcases getA _ _ id _ hg with ⟨h1, h2⟩ | ⟨h1, h2⟩
    · obtain ⟨b, s, e, c', fr', k1, k2⟩ := h.tok id t' h2
      exact ⟨b, s, e, c', fr', htk _ _ k1, k2⟩
    · cases h2; exact ⟨b, s, e, c, fr, by simp [C', h1], hb, he, hf, hfr⟩
  · intro id id' b' h1 h2
    rcases ownOld id b' h1 with ⟨a1, a2⟩ | ⟨a1, a2⟩ <;> rcases ownOld id' b' h2 with ⟨b1, b2⟩ | ⟨b1, b2⟩
    · exact h.uniq _ _ _ a2 b2
    · exact absurd (b2 ▸ a2) (hu id)
    · exact absurd (a2 ▸ b2) (hu id')
    · omega
  · intro id b' h1
    rcases ownOld id b' h1 with ⟨a1, a2⟩ | ⟨a1, a2⟩
    · exact h.low _ _ a2
    · rw [a2]; exact hB

/-- An object of the store is struck. -/
theorem SR.kill (h : SR B C σ w) (k : Nat) : SR B C (σ.set k .dead) w := by
  have get : ∀ (id : Nat) x, (σ.set k AObj.dead)[id]? = some x → x ≠ .dead → σ[id]? = some x ∧ id ≠ k := by
    intro id x hx hd
    rw [List.getElem?_set] at hx
    split at hx
    · split at hx
      · cases hx; exact absurd rfl hd
      · cases hx
    · rename_i hn; exact ⟨hx, Ne.symm hn⟩
  have ownOld : ∀ (id b : Nat), own C (σ.set k AObj.dead) id = some b → own C σ id = some b := by
    intro id b hb
    unfold own at hb
    split at hb <;> rename_i hg
    · have := (get _ _ hg (by simp)).1; simp [own, this, hb]
    · have := (get _ _ hg (by simp)).1; simp [own, this, hb]
    · have := (get _ _ hg (by simp)).1; simp [own, this, hb]
    · cases hb
  refine ⟨h.hB, h.im, fun id hid => h.fresh id (free_set (by simp) hid), ?_, ?_, ?_, fun id id' b h1 h2 => h.uniq _ _ _ (ownOld _ _ h1) (ownOld _ _ h2), fun id b h1 => h.low _ _ (ownOld _ _ h1)⟩
  · exact fun id cs e hg => h.cells id cs e (get _ _ hg (by simp)).1
  · exact fun id es hg => h.map id es (get _ _ hg (by simp)).1
  · exact fun id t hg => h.tok id t (get _ _ hg (by simp)).1
end

end Go.Pm
end

section
set_option linter.unusedSimpArgs false
set_option linter.unusedVariables false
set_option linter.unusedSectionVars false
/- The pure machine: writes into boxes, and into the room behind a row. -/
set_option linter.unusedSimpArgs false
set_option linter.unusedVariables false
namespace Go.Pm
open Go.RowKit (Below)

theorem putAt_length (cs : List AV) (off : Nat) (asl : List AV) : (putAt cs off asl).length = cs.length := by
  induction cs generalizing off asl with
  | nil => cases off <;> cases asl <;> simp [putAt]
  | cons c cs ih =>
    cases off with
    | zero => cases asl <;> simp [putAt, ih]
    | succ off => simp [putAt, ih]

theorem putAt_get (cs : List AV) (off : Nat) (asl : List AV) (h : off + asl.length ≤ cs.length) (k : Nat) :
    (putAt cs off asl)[k]? = if off ≤ k ∧ k < off + asl.length then asl[k - off]? else cs[k]? := by
  induction cs generalizing off asl k with
  | nil =>
    have : asl.length = 0 := by simp only [List.length_nil] at h; omega
    have h0 : asl = [] := List.eq_nil_of_length_eq_zero this
    subst h0
    rw [if_neg (by simp only [List.length_nil]; omega)]
    cases off <;> simp [putAt]
  | cons c cs ih =>
    cases off with
    | zero =>
      cases asl with
      | nil => rw [if_neg (by simp)]; simp [putAt]
      | cons a asl =>
        simp only [putAt]
        cases k with
        | zero => simp
        | succ k =>
          simp only [List.getElem?_cons_succ]
          rw [ih 0 asl (by simp at h ⊢; omega) k]
          simp only [List.length_cons]
          by_cases e : k < asl.length
          · rw [if_pos (by omega), if_pos (by omega)]
            simp
          · rw [if_neg (by omega), if_neg (by omega)]
    | succ off =>
      simp only [putAt]
      cases k with
      | zero => rw [if_neg (by omega)]; simp
      | succ k =>
        simp only [List.getElem?_cons_succ]
        rw [ih off asl (by simp at h ⊢; omega) k]
        by_cases e : off ≤ k ∧ k < off + asl.length
        · rw [if_pos e, if_pos (by omega)]
          rw [show k + 1 - (off + 1) = k - off by omega]
        · rw [if_neg e, if_neg (by omega)]

section
variable {B : Nat} {C : Ctx} {σ : Store} {w : World}

theorem VRs.put {cs asl : List AV} {us vs : List Value} (h : VRs C cs us) (r : VRs C asl vs) {off : Nat} (hl : off + asl.length ≤ cs.length) {us' : List Value}
    (hu : ∀ (k : Nat), us'[k]? = if off ≤ k ∧ k < off + vs.length then vs[k - off]? else us[k]?) : VRs C (putAt cs off asl) us' := by
  have hlen : us'.length = us.length := by
    have h1 : ∀ k : Nat, us'[k]? = none ↔ us[k]? = none := by
      intro k
      rw [hu k]
      split
      · rename_i e
        have : vs[k - off]? ≠ none := by
          rw [List.getElem?_eq_getElem (by omega)]; simp
        have h2 : us[k]? ≠ none := by
          rw [List.getElem?_eq_getElem (by rw [← h.len]; rw [← r.len] at e; omega)]; simp
        simp [this, h2]
      · exact Iff.rfl
    have a := (h1 us'.length).1 (List.getElem?_eq_none (Nat.le_refl _))
    have b := (h1 us.length).2 (List.getElem?_eq_none (Nat.le_refl _))
    rw [List.getElem?_eq_none_iff] at a b
    omega
  refine ⟨by rw [putAt_length, h.len, hlen], fun j x v hx hv => ?_⟩
  rw [putAt_get _ _ _ hl] at hx
  rw [hu] at hv
  rw [← r.len] at hv
  split at hx
  · rename_i e; rw [if_pos e] at hv; exact r.at_ _ _ _ hx hv
  · rename_i e; rw [if_neg e] at hv; exact h.at_ _ _ _ hx hv

/-- A box is written to. -/
theorem SR.write (h : SR B C σ w) {id b off : Nat} {cs : List AV} {e : Option TypeId} {e0 : TypeId} (hg : σ[id]? = some (.cells cs e)) {c c' : Array Value} {fr : Nat × Nat} (hb : C.bx id = some b) (hh : w.heap[b]? = some (.cells c e0 fr))
    {asl : List AV} {vs : List Value} (hr : VRs C asl vs) (hl : off + asl.length ≤ cs.length) {w' : World} (hw : Wrote w w' b c c' e0 fr)
    (hc : ∀ k, c'[k]? = if off ≤ k ∧ k < off + vs.length then vs[k - off]? else c[k]?) : SR B C (σ.set id (.cells (putAt cs off asl) e)) w' := by
  have hid : id < σ.length := (List.getElem?_eq_some_iff.1 hg).1
  have hown : own C σ id = some b := by simp [own, hg, hb]
  have get : ∀ (i : Nat) x, (σ.set id (.cells (putAt cs off asl) e))[i]? = some x → (i = id ∧ x = .cells (putAt cs off asl) e) ∨ (i ≠ id ∧ σ[i]? = some x) := by
    intro i x hx
    rw [List.getElem?_set] at hx
    split at hx
    · rename_i e1
      try rw [if_pos hid] at hx
      cases hx; exact .inl ⟨e1.symm, rfl⟩
    · rename_i hn; exact .inr ⟨Ne.symm hn, hx⟩
  have ownOld : ∀ (i b' : Nat), own C (σ.set id (.cells (putAt cs off asl) e)) i = some b' → own C σ i = some b' := by
    intro i b' hb'
    unfold own at hb'
    split at hb' <;> rename_i hg'
    · rcases get i _ hg' with ⟨h1, h2⟩ | ⟨h1, h2⟩
      · subst h1; simp [own, hg, hb']
      · simp [own, h2, hb']
    · rcases get i _ hg' with ⟨h1, h2⟩ | ⟨h1, h2⟩
      · cases h2
      · simp [own, h2, hb']
    · rcases get i _ hg' with ⟨h1, h2⟩ | ⟨h1, h2⟩
      · cases h2
      · simp [own, h2, hb']
    · cases hb'
  obtain ⟨b0, c0, fr0, e0', q1, q2, q3, q4, q5, q6, q7⟩ := h.cells id _ _ hg
  obtain rfl : b0 = b := Option.some.inj (q1.symm.trans hb)
  rw [hh] at q2
  obtain ⟨rfl, rfl, rfl⟩ : c = c0 ∧ e0 = e0' ∧ fr = fr0 := by
    have := Option.some.inj q2
    simp only [Obj.cells.injEq] at this
    exact this
  refine ⟨by rw [hw.size]; exact h.hB, ?_, fun i hi => h.fresh i (free_set (by simp) hi), ?_, ?_, ?_, fun i i' b' h1 h2 => h.uniq _ _ _ (ownOld _ _ h1) (ownOld _ _ h2), fun i b' h1 => h.low _ _ (ownOld _ _ h1)⟩
  · intro b' o v k
    obtain ⟨c1, e1, fr1, k1, k2⟩ := h.im b' o v k
    by_cases hbb : b' = b0
    · subst hbb; rw [q5 o] at k; cases k
    · exact ⟨c1, e1, fr1, by rw [hw.else_ _ hbb]; exact k1, k2⟩
  · intro i cs' e' hg'
    rcases get i _ hg' with ⟨h1, h2⟩ | ⟨h1, h2⟩
    · cases h2
      subst h1
      refine ⟨b0, c', fr, e0, q1, hw.here, by rw [putAt_length, hw.csize]; exact q3, ?_, q5, by rw [putAt_length]; exact q6, by rw [putAt_length, hw.csize]; exact q7⟩
      refine q4.put hr hl fun k => ?_
      rw [putAt_length, List.getElem?_take, List.getElem?_take, Array.getElem?_toList, Array.getElem?_toList, hc k]
      rw [← hr.len]
      by_cases e1 : off ≤ k ∧ k < off + asl.length
      · rw [if_pos (by omega), if_pos e1]; simp [e1]
      · simp [e1]
    · obtain ⟨b1, c1, fr1, e1', k1, k2, k3⟩ := h.cells i _ _ h2
      have hne : b1 ≠ b0 := by
        intro e1; subst e1
        exact h1 (h.uniq i id b1 (by simp [own, h2, k1]) hown)
      exact ⟨b1, c1, fr1, e1', k1, by rw [hw.else_ _ hne]; exact k2, k3⟩
  · intro i es hg'
    rcases get i _ hg' with ⟨h1, h2⟩ | ⟨h1, h2⟩
    · cases h2
    · exact h.map i es h2
  · intro i t hg'
    rcases get i _ hg' with ⟨h1, h2⟩ | ⟨h1, h2⟩
    · cases h2
    · obtain ⟨b1, s, e1, c1, fr1, k1, k2, k3⟩ := h.tok i t h2
      have hne : b1 ≠ b0 := by
        intro e1; subst e1
        exact h1 (h.uniq i id b1 (by simp [own, h2, k1]) hown)
      exact ⟨b1, s, e1, c1, fr1, k1, by rw [hw.else_ _ hne]; exact k2, k3⟩

/-- The room behind a row is written to. -/
theorem SR.fill (h : SR B C σ w) {k b s e : Nat} {t : TypeId} (hk : σ[k]? = some (.tok t)) (htk : C.tk k = some (b, s, e)) {c c' : Array Value} {fr : Nat × Nat} (hb : w.heap[b]? = some (.cells c t fr)) (he : e ≤ c.size)
    (hf : ∀ o, s ≤ o → o < e → C.im b o = none) (hfr : fr.1 = fr.2 ∨ fr.2 ≤ s) {vs : List Value} (hn : s + vs.length ≤ e) {w' : World} (hw : Wrote w w' b c c' t fr)
    (hc : ∀ j, c'[j]? = if s ≤ j ∧ j < s + vs.length then vs[j - s]? else c[j]?) :
    ∃ C', Ctx.le B C C' ∧ SR B C' (σ.set k .dead ++ [.tok t]) w' ∧ (∀ (j : Nat) v, vs[j]? = some v → C'.im b (s + j) = some v) ∧ C'.tk σ.length = some (b, s + vs.length, e) ∧ C'.bx = C.bx := by
  have hown : own C σ k = some b := by simp [own, hk, htk]
  have hlow := h.low _ _ hown
  have hkl : k < σ.length := (List.getElem?_eq_some_iff.1 hk).1
  have h1 := h.kill k
  have hno : ∀ id, own C (σ.set k .dead) id ≠ some b := by
    intro id hid
    by_cases e1 : id = k
    · subst e1; simp [own, hkl] at hid
    · have : own C σ id = some b := by
        unfold own at hid ⊢
        rw [List.getElem?_set_ne (Ne.symm e1)] at hid
        exact hid
      exact e1 (h.uniq _ _ _ this hown)
  let C1 : Ctx := { C with im := fun b' o => if b' = b ∧ s ≤ o ∧ o < s + vs.length then vs[o - s]? else C.im b' o }
  have hle : Ctx.le B C C1 := by
    refine ⟨fun b' o v q => ?_, fun _ _ q => q, fun _ _ q => q, fun b' o hb' => ?_⟩
    · simp only [C1]
      rw [if_neg]
      · exact q
      · rintro ⟨rfl, e1, e2⟩
        rw [hf o e1 (by omega)] at q; cases q
    · simp only [C1]
      rw [if_neg]; omega
  have sr1 : SR B C1 (σ.set k .dead) w' := by
    refine ⟨by rw [hw.size]; exact h.hB, ?_, h1.fresh, ?_, h1.map, ?_, h1.uniq, h1.low⟩
    · intro b' o v q
      simp only [C1] at q
      split at q
      · rename_i e1
        obtain ⟨rfl, e1, e2⟩ := e1
        refine ⟨c', t, fr, hw.here, ?_⟩
        rw [hc, if_pos ⟨e1, e2⟩]; exact q
      · rename_i e1
        obtain ⟨c1, t1, fr1, k1, k2⟩ := h.im b' o v q
        by_cases hbb : b' = b
        · subst hbb
          rw [hb] at k1
          have := Option.some.inj k1
          simp only [Obj.cells.injEq] at this
          obtain ⟨rfl, rfl, rfl⟩ := this
          refine ⟨c', t, fr, hw.here, ?_⟩
          rw [hc, if_neg (fun e2 => e1 ⟨rfl, e2⟩)]; exact k2
        · exact ⟨c1, t1, fr1, by rw [hw.else_ _ hbb]; exact k1, k2⟩
    · intro id cs e' hg
      obtain ⟨b1, c1, fr1, e1', k1, k2, k3, k4, k5, k6⟩ := h1.cells id _ _ hg
      have hne : b1 ≠ b := by
        intro e1; subst e1
        exact hno id (by simp [own, hg, k1])
      exact ⟨b1, c1, fr1, e1', k1, by rw [hw.else_ _ hne]; exact k2, k3, k4.mono hle, fun o => by simp [C1, hne, k5 o], k6⟩
    · intro id t1 hg
      obtain ⟨b1, s1, e1, c1, fr1, k1, k2, k3, k4, k5⟩ := h1.tok id t1 hg
      have hne : b1 ≠ b := by
        intro e1; subst e1
        exact hno id (by simp [own, hg, k1])
      exact ⟨b1, s1, e1, c1, fr1, k1, by rw [hw.else_ _ hne]; exact k2, k3, fun o h1 h2 => by simp [C1, hne, k4 o h1 h2], k5⟩
  obtain ⟨C2, l2, sr2, t2, i2, b2⟩ := sr1.newTok (b := b) (s := s + vs.length) (e := e) hw.here (by rw [hw.csize]; exact he) (fun o ha hb' => by simp only [C1]; rw [if_neg (by omega)]; exact hf o (by omega) hb') (by rcases hfr with h | h; exact .inl h; exact .inr (by omega)) hno hlow
  refine ⟨C2, hle.trans l2, sr2, fun j v hj => ?_, by simpa using t2, by rw [b2]⟩
  rw [i2]
  have hj' := (List.getElem?_eq_some_iff.1 hj).1
  simp only [C1]
  rw [if_pos (by simp; omega)]
  simpa using hj
end

end Go.Pm
end

section
set_option linter.unusedSimpArgs false
set_option linter.unusedVariables false
set_option linter.unusedSectionVars false
/- The pure machine: the operations, one by one. -/
set_option linter.unusedSimpArgs false
set_option linter.unusedVariables false
namespace Go.Pm
open Go.RowKit (Below)

section
variable {P : Program} {G : Globals} {B : Nat} {C : Ctx} {N : Nat} {env : Env} {a : Act} {σ : Store} {w : World}

theorem run_loadRow {b o : Nat} {vs : List Value} (him : ∀ (j : Nat) v, vs[j]? = some v → w.cell? ⟨b, o + j, none⟩ = some v) :
    (loadCells ⟨b, o, none⟩ vs.length).run P w = .ok vs.toArray w :=
  run_loadCells_list w ⟨b, o, none⟩ vs fun j v hj => by rw [add_plain]; exact him j v hj

theorem SR.cell (sr : SR B C σ w) {b o : Nat} {v : Value} (h : C.im b o = some v) : w.cell? ⟨b, o, none⟩ = some v := by
  obtain ⟨c, e, fr, k1, k2⟩ := sr.im b o v h
  rw [cell_of_row k1]; exact k2

/-- Reading a part of cells that are known. -/
theorem loadPart {cs : List AV} {vs : List Value} (r : VRs C cs vs) {off : Nat} {n : Option Nat} {av : AV} (h : partOf cs off n = some av) {t : TypeId} (ht : readIs P t n = true)
    {b o : Nat} (him : ∀ (j : Nat) v, vs[j]? = some v → w.cell? ⟨b, o + j, none⟩ = some v) : ∃ v, (loadVar t ⟨b, o + off, none⟩).run P w = .ok v w ∧ VR C av v := by
  unfold readIs at ht
  simp only [Bool.and_eq_true] at ht
  obtain ⟨hu, ht⟩ := ht
  cases n with
  | none =>
    simp only [partOf] at h
    obtain ⟨v, k1, k2⟩ := r.get h
    refine ⟨v, ?_, k2⟩
    have hagg : aggB P t = false := by simpa using ht
    simp [loadVar, run_isAgg hu, hagg, him off v k1]
  | some n =>
    simp only [partOf] at h
    split at h
    · rename_i hle
      cases h
      simp only [Bool.and_eq_true] at ht
      have hlen : ((vs.drop off).take n).length = n := by simp [← r.len]; omega
      have hrun := run_loadRow (P := P) (w := w) (b := b) (o := o + off) (vs := (vs.drop off).take n) (fun j v hj => by
        rw [List.getElem?_take] at hj
        split at hj
        · rw [List.getElem?_drop] at hj
          have := him _ v hj
          rw [Nat.add_assoc]; exact this
        · cases hj)
      rw [hlen] at hrun
      refine ⟨.agg ((vs.drop off).take n).toArray, ?_, .agg (by simp [r.len]) ((r.drop off).take n).at_⟩
      simp only [loadVar, Sem.run_bind, run_isAgg hu, Result.andThen_ok, ht.1, if_true, run_sizeOf ht.2, Sem.run_pure, hrun]
    · cases h

theorem loadAt_sound (sr : SR B C σ w) {n : Option Nat} {x av : AV} {v : Value} (hx : VR C x v) (h : loadAt σ n x = some av) {t : TypeId} (ht : readIs P t n = true) :
    ∃ u, (Instr.loadAt t v).run P w = .ok u w ∧ VR C av u := by
  unfold loadAt at h
  split at h
  · rename_i sz row i off
    split at h
    · rename_i e hi
      cases hx with
      | ip hsz hl him hv =>
      rename_i b o vs
      have hall : VRs C (flat row) vs := ⟨hl, hv⟩
      have he := flat_get hsz hi
      have r : VRs C e.cells ((vs.drop (i * sz)).take sz) := by rw [← he]; exact (hall.drop _).take _
      obtain ⟨u, k1, k2⟩ := loadPart (P := P) (w := w) (b := b) (o := o + i * sz) r h ht (fun j v hj => by
        rw [List.getElem?_take] at hj
        split at hj
        · rw [List.getElem?_drop] at hj
          have := sr.cell (him _ v hj)
          rw [Nat.add_assoc]; exact this
        · cases hj)
      exact ⟨u, by simp only [Instr.loadAt, Instr.sureAddr, pure_bind]; exact k1, k2⟩
    · cases h
  · rename_i id off
    split at h
    · rename_i c e hs
      cases hx with
      | bp hb =>
      rename_i b
      unfold storeOf at hs
      split at hs
      · rename_i c1 e1 hg
        cases hs
        obtain ⟨b', c', fr, e0', k1, k2, k3, k4, k5, k6, k7⟩ := sr.cells id _ _ hg
        obtain rfl : b' = b := Option.some.inj (k1.symm.trans hb)
        obtain ⟨u, q1, q2⟩ := loadPart (P := P) (w := w) (b := b') (o := 0) k4 h ht (fun j v hj => by
          rw [List.getElem?_take] at hj
          split at hj
          · rw [Nat.zero_add, cell_of_row k2]; simpa using hj
          · cases hj)
        exact ⟨u, by simp only [Instr.loadAt, Instr.sureAddr, pure_bind]; simpa using q1, q2⟩
      · cases hs
    · cases h
  · cases h

theorem VRs.all_cell {cs : List AV} {vs : List Value} (r : VRs C cs vs) (h : cs.all AV.isCell = true) : ∀ v, v ∈ vs → v.oneCell' = true := by
  intro v hv
  obtain ⟨j, hj⟩ := List.getElem?_of_mem hv
  have hlt : j < cs.length := by rw [r.len]; exact (List.getElem?_eq_some_iff.1 hj).1
  have := r.at_ j cs[j] v (List.getElem?_eq_getElem hlt) hj
  exact (this.isCell (List.all_eq_true.1 h _ (List.getElem_mem hlt))).1

theorem storeAt_sound (sr : SR B C σ w) {n : Nat} {x y : AV} {v u : Value} (hx : VR C x v) (hy : VR C y u) {σ' : Store} (h : storeAt σ n x y = some σ') {t : TypeId} (ht : sizeIs P t n = true) :
    ∃ w', (Instr.storeAt t v u).run P w = .ok () w' ∧ SR B C σ' w' ∧ Below B w w' := by
  unfold storeAt at h
  split at h
  · rename_i id off
    split at h
    · rename_i c e hs
      split at h
      · rename_i hc
        cases h
        obtain ⟨h1, h2, h3⟩ := hc
        cases hx with
        | bp hb =>
        rename_i b
        unfold storeOf at hs
        split at hs
        · rename_i c1 e1 hg
          cases hs
          obtain ⟨b', c', fr, e0', k1, k2, k3, k4, k5, k6, k7⟩ := sr.cells id _ _ hg
          obtain rfl : b' = b := Option.some.inj (k1.symm.trans hb)
          have hr := hy.cells
          have hlen : u.cells.toList.length = n := by rw [← hr.len]; exact h1
          obtain ⟨w', c2, q1, q2, q3⟩ := run_storeCells (P := P) off u.cells.toList 0 c' w k2 (by rw [hlen]; omega) (hr.all_cell h3) (fun k ha hb' => k6 k (by rw [hlen] at hb'; omega))
          refine ⟨w', ?_, sr.write hg k1 k2 hr (by rw [h1]; exact h2) q2 (by simpa using q3), Below.of_wrote q2 (sr.low id b' (by simp [own, hg, k1]))⟩
          simp only [Instr.storeAt, Instr.sureAddr, storeVar, pure_bind, Sem.run_bind, run_sizeOf ht, Result.andThen_ok]
          have : ¬ (u.cells.size ≠ n) := by simp at hlen; simp [hlen]
          rw [if_neg this]
          exact q1
        · cases hs
      · cases h
    · cases h
  · cases h

theorem foldl_put (v : List Value) (off : Nat) : ∀ (i : Nat) (cs : Array Value), off + i + v.length ≤ cs.size →
    ∀ k : Nat, ((v.zipIdx i).foldl (fun cs (x : Value × Nat) => cs.setIfInBounds (off + x.2) x.1) cs)[k]? = if off + i ≤ k ∧ k < off + i + v.length then v[k - (off + i)]? else cs[k]? := by
  induction v with
  | nil => intro i cs h k; rw [if_neg (by simp only [List.length_nil]; omega)]; simp
  | cons x v ih =>
    intro i cs h k
    simp only [List.length_cons] at h
    simp only [List.zipIdx_cons, List.foldl_cons]
    rw [ih (i + 1) _ (by simp; omega) k, List.length_cons]
    by_cases e0 : k = off + i
    · subst e0
      rw [if_neg (by omega), if_pos (by omega)]
      simp [show off + i < cs.size by omega]
    · rw [Array.getElem?_setIfInBounds, if_neg (Ne.symm e0)]
      by_cases e1 : off + (i + 1) ≤ k ∧ k < off + (i + 1) + v.length
      · rw [if_pos e1, if_pos (by omega), show k - (off + i) = (k - (off + (i + 1))) + 1 by omega]
        simp
      · rw [if_neg e1, if_neg (by omega)]

theorem fill_sound (er : ER C N env a.tmps) (gr : GR G C) {place : Nat → Option (Nat × Nat)} : ∀ {ps : List (Nat × Operand)} {aps : List (Nat × Nat × AX)}, okParts place ps aps = true → ∀ {vs}, pickParts G env aps = some vs →
    ∀ {zero cs : List AV} {zs : Array Value}, fillA zero vs = some cs → VRs C zero zs.toList → ∃ cells, Instr.fill place zs (ps.map fun (i, x) => (i, a.eval x)) = some cells ∧ VRs C cs cells.toList := by
  intro ps
  induction ps with
  | nil =>
    intro aps hok vs hv zero cs zs hf hz
    cases aps with
    | nil => simp only [pickParts, Option.some.injEq] at hv; subst hv; simp only [fillA, Option.some.injEq] at hf; subst hf; exact ⟨zs, rfl, hz⟩
    | cons _ _ => simp [okParts] at hok
  | cons p ps ih =>
    obtain ⟨i, x⟩ := p
    intro aps hok vs hv zero cs zs hf hz
    cases aps with
    | nil => simp [okParts] at hok
    | cons q aps =>
      obtain ⟨off, n, ax⟩ := q
      simp only [okParts, Bool.and_eq_true, decide_eq_true_eq] at hok
      simp only [pickParts] at hv
      split at hv
      · rename_i v vs' h1 h2
        cases hv
        simp only [fillA] at hf
        split at hf
        · rename_i hc
          have hvr := okX_sound er gr hok.1.2 h1
          have hcl := hvr.cells
          have hsz : (a.eval x).cells.size = n := by
            have := hcl.len; simp at this; omega
          have hzl : zs.size = zero.length := by have := hz.len; simpa using this.symm
          have hput : VRs C (putAt zero off v.cells) ((a.eval x).cells.zipIdx.foldl (fun cs (c, j) => cs.setIfInBounds (off + j) c) zs).toList := by
            refine hz.put hcl (by omega) fun k => ?_
            have := foldl_put (a.eval x).cells.toList off 0 zs (by simp; omega) k
            rw [← Array.foldl_toList, Array.toList_zipIdx]
            simpa using this
          obtain ⟨cells, k1, k2⟩ := ih hok.2 h2 hf hput
          refine ⟨cells, ?_, k2⟩
          simp only [List.map_cons, Instr.fill, hok.1.1]
          rw [if_neg]
          · exact k1
          · simp only [hsz, ne_eq, not_true_eq_false, decide_false, Bool.false_or, decide_eq_true_eq]; omega
        · cases hf
      · cases hv
end

end Go.Pm
end

section
set_option linter.unusedSimpArgs false
set_option linter.unusedVariables false
set_option linter.unusedSectionVars false
/- The pure machine: append. -/
set_option linter.unusedSimpArgs false
set_option linter.unusedVariables false
namespace Go.Pm
open Go.RowKit (Below)

section
variable {P : Program} {G : Globals} {B : Nat} {C : Ctx} {N : Nat} {env : Env} {a : Act} {σ : Store} {w : World}

theorem firstCells_im {w' : World} {sz n b o c : Nat} {vs : List Value} (hl : vs.length = n * sz) (him : ∀ (j : Nat) v, vs[j]? = some v → w'.cell? ⟨b, o + j, none⟩ = some v) :
    (Builtin.firstCells sz n (.slice (some ⟨b, o, none⟩) n c)).run P w' = .ok vs.toArray w' := by
  have := run_loadRow (P := P) (w := w') him
  rw [hl] at this
  simpa [Builtin.firstCells] using this

theorem run_append_room {t u ty e : TypeId} {i : TypeInfo} (ht : P.underlying t = some (.slice e)) (hi : P.info? e = some i) (hu : (∃ e2, P.underlying u = some (.slice e2)) ∨ P.underlying u = some .string)
    {base : Option Addr} {sLen sCap n : Nat} {x : Value} {news : List Value} (hn : (Builtin.lenOf x).run P w = .ok n w) (hf : (Builtin.firstCells i.size n x).run P w = .ok news.toArray w) (hroom : sLen + n ≤ sCap) :
    (Builtin.append_ #[t, u] ty #[.slice base sLen sCap, x]).run P w =
      (match base with
       | some a => (storeCells (a.add (sLen * i.size)) news).run P w
       | none => .ok () w).andThen fun _ w' => .ok (.slice base (sLen + n) sCap) w' := by
  rcases hu with ⟨e2, hu⟩ | hu <;> cases base with
  | none => simp [Builtin.append_, run_underlying ht, sizeOf, typeInfo, hi, run_underlying hu, hn, hf, hroom]
  | some a => simp [Builtin.append_, run_underlying ht, sizeOf, typeInfo, hi, run_underlying hu, hn, hf, hroom]

theorem run_append_more {t u ty e : TypeId} {i : TypeInfo} {z : Value} (ht : P.underlying t = some (.slice e)) (hi : P.info? e = some i) (hz0 : i.zero = some z) (hb0 : i.bytes ≠ 0) (hu : (∃ e2, P.underlying u = some (.slice e2)) ∨ P.underlying u = some .string)
    {base : Option Addr} {sLen sCap n : Nat} {x : Value} {olds news : List Value} (hn : (Builtin.lenOf x).run P w = .ok n w) (hf : (Builtin.firstCells i.size n x).run P w.drew = .ok news.toArray w.drew)
    (ho : (Builtin.firstCells i.size sLen (.slice base sLen sCap)).run P w.drew = .ok olds.toArray w.drew) (hmore : sCap < sLen + n) (hbytes : (sLen + n) * i.bytes ≤ 140737488355328) :
    (Builtin.append_ #[t, u] ty #[.slice base sLen sCap, x]).run P w =
      .ok (.slice (some ⟨w.heap.size, 0, none⟩) (sLen + n) (grownCap w (sLen + n) sCap e)) (w.drew.alloc (.cells (olds.toArray ++ news.toArray ++ Builtin.zeroCells z.cells (grownCap w (sLen + n) sCap e - (sLen + n))) e)) := by
  have h1 : ¬ (sLen + n ≤ sCap) := by omega
  have h48 := growslice_fits hmore hbytes
  have h48' : ¬ (281474976710656 < Builtin.nextslicecap (sLen + n) sCap * i.bytes) := by omega
  rcases hu with ⟨e2, hu⟩ | hu
  all_goals
    simp [Builtin.append_, run_underlying ht, sizeOf, typeInfo, zeroValue, hi, hz0, run_underlying hu, hn, h1, h48', hb0, Question.forced, hf, ho, newRow, grownCap]
    congr 2
    apply Array.ext'
    simp

theorem flat_cells : ∀ l : List AV, l.all AV.isCell = true → flat l = l := by
  intro l hl
  induction l with
  | nil => rfl
  | cons x l ih =>
    simp only [List.all_cons, Bool.and_eq_true] at hl
    rw [flat_cons, ih hl.2]
    cases x <;> first | rfl | (simp [AV.isCell] at hl)

/-- What is appended, as the model reads it. -/
theorem src_sound (sr : SR B C σ w) {sz : Nat} {y : AV} {u : Value} (hy : VR C y u) {row : List AV} (h : srcRow σ sz y = some row) (hok : rowOk sz row = true) :
    ∃ n news, n = row.length ∧ VRs C (flat row) news ∧ (∀ v, v ∈ news → v.oneCell' = true) ∧ (Builtin.lenOf u).run P w = .ok n w ∧
      (∀ w', (∀ b, b < w.heap.size → w'.heap[b]? = w.heap[b]?) → (Builtin.firstCells sz n u).run P w' = .ok news.toArray w') := by
  have hrow : ∀ e, e ∈ row → e.cells.length = sz := by
    intro e he
    have := List.all_eq_true.1 hok e he
    simp only [Bool.and_eq_true, beq_iff_eq] at this
    exact this.1
  have hcell : (flat row).all AV.isCell = true := by
    rw [List.all_eq_true]
    intro x hx
    obtain ⟨e, he, hxe⟩ := List.mem_flatMap.1 hx
    have := List.all_eq_true.1 hok e he
    simp only [Bool.and_eq_true, beq_iff_eq] at this
    exact List.all_eq_true.1 this.2 x hxe
  unfold srcRow at h
  split at h
  · rename_i sz' row' cap
    split at h
    · cases h
      cases hy with
      | @sl0 _ _ base => exact ⟨0, [], rfl, .nil _, by simp, by simp [Builtin.lenOf], fun w' _ => by cases base <;> simp [Builtin.firstCells, loadCells, loadCellsFrom]⟩
      | sl hsz hl him hv hc =>
        rename_i b o c vs
        have r : VRs C (flat row) vs := ⟨hl, hv⟩
        refine ⟨row.length, vs, rfl, r, r.all_cell hcell, by simp [Builtin.lenOf], fun w' hw => ?_⟩
        refine firstCells_im (by rw [← r.len, flat_length hrow]) fun j v hj => ?_
        obtain ⟨c1, e, fr, k1, k2⟩ := sr.im _ _ _ (him j v hj)
        rw [cell_of_row (by rw [hw _ (lt_of_row k1)]; exact k1)]
        exact k2
    · cases h
  · rename_i s
    split at h
    · rename_i hs1
      cases h
      subst hs1
      cases hy
      have r : VRs C (flat (s.map fun b => AV.int .u8 b.toNat)) (s.map fun b => Value.int .u8 b.toNat) := by
        have hfl : flat (s.map fun b => AV.int .u8 b.toNat) = s.map fun b => AV.int .u8 b.toNat := flat_cells _ (by simp [AV.isCell])
        rw [hfl]
        refine ⟨by simp, fun j x v hx hv => ?_⟩
        simp at hx hv
        obtain ⟨b, hb, rfl⟩ := hx
        obtain ⟨b', hb', rfl⟩ := hv
        rw [hb] at hb'; cases hb'
        exact .int
      refine ⟨s.length, _, by simp, r, r.all_cell hcell, by simp [Builtin.lenOf, ByteArray.size], fun w' _ => ?_⟩
      have : (ByteArray.mk s.toArray).extract 0 s.length = ByteArray.mk s.toArray := by
        apply ByteArray.ext
        simp
      simp [Builtin.firstCells, this]
    · cases h
  · rename_i sz' id off len
    split at h
    · rename_i hs
      obtain ⟨rfl, hs1⟩ := hs
      split at h
      · rename_i c e hst
        split at h
        · rename_i hle
          cases h
          unfold storeOf at hst
          split at hst
          · rename_i c1 e1 hg
            cases hst
            obtain ⟨b', c', fr, e0', k1, k2, k3, k4, k5, k6, k7⟩ := sr.cells id _ _ hg
            cases hy with
            | bs hb ho hc =>
            rename_i b off' cc
            obtain rfl : b' = b := Option.some.inj (k1.symm.trans hb)
            subst hs1
            obtain ⟨hle1, hcells⟩ := hle
            have hlen : ((c.drop off).take len).length = len := by simp; omega
            have hfl := flat_cells
            have r : VRs C ((c.drop off).take len) (((c'.toList.take c.length).drop off).take len) := (k4.drop off).take len
            have hvl : (((c'.toList.take c.length).drop off).take len).length = len := by rw [← r.len]; exact hlen
            refine ⟨len, (((c'.toList.take c.length).drop off).take len), hlen.symm, by rw [hfl _ hcells]; exact r, r.all_cell hcells, by simp [Builtin.lenOf], fun w' hw => ?_⟩
            rcases Nat.eq_zero_or_pos len with h0 | h0
            · subst h0
              simp [Builtin.firstCells, loadCells, loadCellsFrom]
            · have ho' : off' = off := by omega
              subst ho'
              refine firstCells_im (by rw [hvl]; simp) fun j v hj => ?_
              rw [cell_of_row (by rw [hw _ (lt_of_row k2)]; exact k2)]
              rw [List.getElem?_take] at hj
              split at hj
              · rw [List.getElem?_drop, List.getElem?_take] at hj
                split at hj
                · simpa using hj
                · cases hj
              · cases hj
          · cases hst
        · cases h
      · cases h
    · cases h
  · cases h

theorem rowOk_parts {sz : Nat} {row : List AV} (hok : rowOk sz row = true) : (∀ e, e ∈ row → e.cells.length = sz) ∧ (flat row).all AV.isCell = true := by
  refine ⟨fun e he => ?_, ?_⟩
  · have := List.all_eq_true.1 hok e he
    simp only [Bool.and_eq_true, beq_iff_eq] at this
    exact this.1
  · rw [List.all_eq_true]
    intro x hx
    obtain ⟨e, he, hxe⟩ := List.mem_flatMap.1 hx
    have := List.all_eq_true.1 hok e he
    simp only [Bool.and_eq_true, beq_iff_eq] at this
    exact List.all_eq_true.1 this.2 x hxe

theorem append_sound (sr : SR B C σ w) {sz bytes : Nat} {x y : AV} {v u : Value} (hx : VR C x v) (hy : VR C y u) {r : AV} {σ' : Store} {t ut ty e : TypeId} (h : appendA σ e sz bytes x y = some (r, σ'))
    {i : TypeInfo} {z : Value} (ht : P.underlying t = some (.slice e)) (hi : P.info? e = some i) (hz : i.zero = some z) (hzs : z.cells.size = i.size) (hsz : i.size = sz) (hby : i.bytes = bytes) (hb0 : bytes ≠ 0) (hs0 : sz ≠ 0)
    (hu : (∃ e2, P.underlying ut = some (.slice e2)) ∨ P.underlying ut = some .string) :
    ∃ C' w' v', (Builtin.append_ #[t, ut] ty #[v, u]).run P w = .ok v' w' ∧ Ctx.le B C C' ∧ SR B C' σ' w' ∧ Below B w w' ∧ VR C' r v' := by
  subst hsz; subst hby
  unfold appendA at h
  split at h
  · rename_i sz' row cap new hsrc
    split at h
    · rename_i hc
      obtain ⟨hs1, hok⟩ := hc
      subst hs1
      obtain ⟨n, news, hn, hr, hcell, hlen, hfirst⟩ := src_sound (P := P) sr hy hsrc hok
      obtain ⟨hrow2, _⟩ := rowOk_parts hok
      -- what is there
      obtain ⟨base, c, olds, rfl, hcap, hold, hsize, hofirst, hcapR⟩ : ∃ (base : Option Addr) (c : Nat) (olds : List Value), v = .slice base row.length c ∧ row.length ≤ c ∧ VRs C (flat row) olds ∧ (∀ e, e ∈ row → e.cells.length = i.size) ∧
          (∀ w', (∀ b, b < w.heap.size → w'.heap[b]? = w.heap[b]?) → (Builtin.firstCells i.size row.length (.slice base row.length c)).run P w' = .ok olds.toArray w') ∧
          ((row = [] ∧ c = 0) ∨ ∃ b o, base = some ⟨b, o, none⟩ ∧ CapR C b (o + row.length * i.size) i.size row.length c cap ∧ (∀ (j : Nat) v, olds[j]? = some v → C.im b (o + j) = some v)) := by
        cases hx with
        | @sl0 _ _ base => exact ⟨base, 0, [], rfl, Nat.le_refl _, .nil _, by simp, fun w' _ => by cases base <;> simp [Builtin.firstCells, loadCells, loadCellsFrom], .inl ⟨rfl, rfl⟩⟩
        | sl hsz hl him hv hcr =>
          rename_i b o c vs
          refine ⟨some ⟨b, o, none⟩, c, vs, rfl, hcr.le, ⟨hl, hv⟩, hsz, fun w' hw => ?_, .inr ⟨b, o, rfl, hcr, him⟩⟩
          refine firstCells_im (by rw [← hl, flat_length hsz]) fun j v hj => ?_
          obtain ⟨c1, e1, fr, k1, k2⟩ := sr.im _ _ _ (him j v hj)
          rw [cell_of_row (by rw [hw _ (lt_of_row k1)]; exact k1)]
          exact k2
      have hflat : flat (row ++ new) = flat row ++ flat new := flat_append _ _
      have hall : ∀ e, e ∈ row ++ new → e.cells.length = i.size := fun e he => by
        rcases List.mem_append.1 he with he | he
        · exact hsize e he
        · exact hrow2 e he
      have hnl : news.length = n * i.size := by rw [← hr.len, flat_length hrow2, hn]
      have hol : olds.length = row.length * i.size := by rw [← hold.len, flat_length hsize]
      split at h
      · -- nothing is appended
        rename_i hnil
        cases h
        subst hnil
        have hn0 : n = 0 := by simpa using hn
        subst hn0
        have hnews : news = [] := List.eq_nil_of_length_eq_zero (by simpa using hnl)
        subst hnews
        refine ⟨C, w, .slice base row.length c, ?_, .refl _ _, sr, .refl _ _, hx⟩
        rw [run_append_room ht hi hu hlen (hfirst w fun _ _ => rfl) (by omega)]
        cases base <;> simp [storeCells]
      · split at h
        · rename_i hne hbound
          have hn1 : 0 < n := by
            rw [hn]
            cases new with
            | nil => exact absurd rfl hne
            | cons _ _ => simp
          have hbytes : (row.length + n) * i.bytes ≤ 140737488355328 := by
            rw [hn]; rw [Nat.mul_assoc] at hbound; omega
          -- a new row, and the right to its room
          have grow : c < row.length + n → ∃ C' w' v', (Builtin.append_ #[t, ut] ty #[.slice base row.length c, u]).run P w = .ok v' w' ∧ Ctx.le B C C' ∧ SR B C' (σ ++ [.tok e]) w' ∧ Below B w w' ∧ VR C' (.sl i.size (row ++ new) (.tok σ.length)) v' := by
            intro hmore
            have hrun := run_append_more (P := P) (w := w) (t := t) (u := ut) (ty := ty) ht hi hz hb0 hu hlen (hfirst w.drew fun _ _ => rfl) (hofirst w.drew fun _ _ => rfl) hmore hbytes
            generalize hcap' : grownCap w (row.length + n) c e = c' at hrun
            have hge : row.length + n ≤ c' := by rw [← hcap']; exact grownCap_ge w _ _ _
            obtain ⟨C1, l1, sr1, im1, im1', tk1, bx1⟩ := (sr.drew).newRow (vs := olds ++ news) (c := olds.toArray ++ news.toArray ++ Builtin.zeroCells z.cells (c' - (row.length + n))) (e := e) (fr := (0, 0)) (fun j v hj => by
              have hj' := (List.getElem?_eq_some_iff.1 hj).1
              rw [Array.getElem?_append_left (by simpa using hj')]
              simpa using hj)
            have hsz' : (olds.toArray ++ news.toArray ++ Builtin.zeroCells z.cells (c' - (row.length + n))).size = (row.length + n) * i.size + (c' - (row.length + n)) * i.size := by
              simp [Builtin.zeroCells, hzs, hol, hnl, Nat.add_mul]
            obtain ⟨C2, l2, sr2, tk2, im2, bx2⟩ := sr1.newTok (b := w.heap.size) (s := (row.length + n) * i.size) (e := (row.length + n) * i.size + (c' - (row.length + n)) * i.size) (heap_alloc_new w.drew _) (by rw [hsz']; exact Nat.le_refl _) (fun o h1 h2 => im1' o (by simp [hol, hnl]; rw [← Nat.add_mul]; exact h1)) (.inl rfl)
              (fun id hid => by
                have hlt : w.heap.size < (w.drew).heap.size := own_lt sr.drew (by simpa [own, tk1, bx1] using hid)
                exact absurd hlt (by simp)) sr.hB
            refine ⟨C2, _, _, hrun, l1.trans l2, sr2, ?_, ?_⟩
            · exact ((Below.refl B w).drew).alloc (by simpa using sr.hB) _
            · have r1 : VRs C2 (flat (row ++ new)) (olds ++ news) := by
                rw [hflat]; exact ((hold.append hr).mono l1).mono l2
              have hlen2 : row.length + n = (row ++ new).length := by simp [hn]
              rw [hlen2]
              refine .sl hall r1.len (fun j v hj => ?_) r1.at_ ?_
              · rw [im2, Nat.zero_add]; exact im1 j v hj
              · refine ⟨by rw [← hlen2]; exact hge, ?_⟩
                rw [Nat.zero_add, ← hlen2]; exact tk2
          cases cap with
          | no => simp at h
          | exact =>
            simp only [Option.some.injEq, Prod.mk.injEq] at h
            obtain ⟨rfl, rfl⟩ := h
            refine grow ?_
            rcases hcapR with ⟨rfl, rfl⟩ | ⟨b, o, rfl, hcr, him⟩
            · simpa using hn1
            · simp only [CapR] at hcr; omega
          | tok k =>
            simp only at h
            split at h
            · rename_i t' hk
              split at h
              case isFalse => cases h
              rename_i ht'
              subst ht'
              simp only [Option.some.injEq, Prod.mk.injEq] at h
              obtain ⟨rfl, rfl⟩ := h
              by_cases hmore : c < row.length + n
              · -- the right is given up
                obtain ⟨C', w', v', k1, k2, k3, k4, k5⟩ := grow hmore
                refine ⟨C', w', v', k1, k2, ?_, k4, k5⟩
                have hkl : k < σ.length := (List.getElem?_eq_some_iff.1 hk).1
                have := k3.kill k
                rwa [List.set_append_left _ _ hkl] at this
              · rcases hcapR with ⟨rfl, rfl⟩ | ⟨b, o, rfl, hcr, him⟩
                · simp at hmore; omega
                · rcases hcr with ⟨hc1, htk⟩
                  · obtain ⟨b', s, e', c2, fr, q1, q2, q3, q4, q5⟩ := sr.tok k _ hk
                    rw [htk] at q1
                    simp only [Option.some.injEq, Prod.mk.injEq] at q1
                    obtain ⟨rfl, rfl, rfl⟩ := q1
                    have hfit : o + row.length * i.size + news.length ≤ o + row.length * i.size + (c - row.length) * i.size := by
                      rw [hnl]; exact Nat.add_le_add_left (Nat.mul_le_mul_right _ (by omega)) _
                    obtain ⟨w', c3, p1, p2, p3⟩ := run_storeCells (P := P) (o + row.length * i.size) news 0 c2 w q2 (by omega) hcell (fun k h1 h2 => by rcases q5 with q5 | q5 <;> omega)
                    obtain ⟨C1, l1, sr1, im1, tk1, bx1⟩ := sr.fill hk htk q2 q3 q4 q5 hfit p2 (by simpa using p3)
                    refine ⟨C1, w', .slice (some ⟨b, o, none⟩) (row.length + n) c, ?_, l1, sr1, Below.of_wrote p2 (sr.low k b (by simp [own, hk, htk])), ?_⟩
                    · rw [run_append_room ht hi hu hlen (hfirst w fun _ _ => rfl) (by omega)]
                      simp only [add_plain, p1, Result.andThen_ok]
                    · have r1 : VRs C1 (flat (row ++ new)) (olds ++ news) := by
                        rw [hflat]; exact (hold.append hr).mono l1
                      have hlen2 : row.length + n = (row ++ new).length := by simp [hn]
                      rw [hlen2]
                      refine .sl hall r1.len (fun j v hj => ?_) r1.at_ ?_
                      · rw [List.getElem?_append] at hj
                        split at hj
                        · exact l1.im _ _ _ (him j v hj)
                        · rename_i hjn
                          have := im1 _ v hj
                          rw [← hol] at this
                          rw [show o + j = o + olds.length + (j - olds.length) by omega]
                          exact this
                      · refine ⟨by rw [← hlen2]; omega, ?_⟩
                        rw [← hlen2, tk1]
                        simp only [Option.some.injEq, Prod.mk.injEq, true_and]
                        constructor
                        · rw [hnl, Nat.add_mul]; omega
                        · rw [Nat.add_mul, show c - row.length = n + (c - (row.length + n)) by omega, Nat.add_mul]; omega
            · cases h
        · cases h
    · cases h
  · cases h
end
end Go.Pm
end

section
set_option linter.unusedSimpArgs false
set_option linter.unusedVariables false
set_option linter.unusedSectionVars false
/- The pure machine: each operation that is no call. -/
set_option linter.unusedSimpArgs false
set_option linter.unusedVariables false
namespace Go.Pm
open Go.RowKit (Below)

section
variable {P : Program} {G : Globals} {B : Nat} {C : Ctx} {N : Nat} {env : Env} {a : Act} {σ : Store} {w : World}

theorem asNat_sound {lim lim' : Nat} {x : AV} {n : Nat} (h : asNat lim x = some n) (hl : lim ≤ lim') {v : Value} (hx : VR C x v) (code : BoundsCode) (w : World) :
    (Instr.sliceBound v lim' code).run P w = .ok n w ∧ n ≤ lim := by
  unfold asNat at h
  split at h
  · cases hx
    split at h
    · rename_i n' hc
      cases h
      have h2 : n' ≤ (lim' : Int) := by omega
      exact ⟨by simp [Instr.sliceBound, asIntOf, hc.1, h2], by omega⟩
    · cases h
  · cases h

/-- An optional bound, as the model has it. -/
def OptR (C : Ctx) (x : Option AV) (v : Option Value) : Prop := (x = none ∧ v = none) ∨ ∃ y u, x = some y ∧ v = some u ∧ VR C y u

theorem bounds_nomax {isSlice : Bool} {len cap : Nat} {lo hi : Option AV} {vlo vhi : Option Value} (rlo : OptR C lo vlo) (rhi : OptR C hi vhi) (w : World) (hlc : len ≤ cap) {l h : Nat}
    (hb : bounds2 len lo hi = some (l, h)) : (Instr.sliceBounds isSlice len cap vlo vhi none).run P w = .ok (l, h, cap) w ∧ l ≤ h ∧ h ≤ len := by
  unfold bounds2 at hb
  rcases rhi with ⟨rfl, rfl⟩ | ⟨y, u, rfl, rfl, hr⟩ <;> rcases rlo with ⟨rfl, rfl⟩ | ⟨y', u', rfl, rfl, hr'⟩ <;> simp only at hb
  · simp only [Option.some.injEq, Prod.mk.injEq] at hb; obtain ⟨rfl, rfl⟩ := hb
    exact ⟨by simp [Instr.sliceBounds], Nat.zero_le _, Nat.le_refl _⟩
  · split at hb
    · cases hb
    · rename_i l' hl
      simp only [Option.some.injEq, Prod.mk.injEq] at hb; obtain ⟨rfl, rfl⟩ := hb
      have := fun code => asNat_sound (P := P) hl (Nat.le_refl _) hr' code w
      exact ⟨by simp [Instr.sliceBounds, this], (this .index).2, Nat.le_refl _⟩
  · split at hb
    · cases hb
    · rename_i h' hh
      simp only [Option.some.injEq, Prod.mk.injEq] at hb; obtain ⟨rfl, rfl⟩ := hb
      have := fun code => asNat_sound (P := P) hh hlc hr code w
      exact ⟨by simp [Instr.sliceBounds, this], Nat.zero_le _, (this .index).2⟩
  · split at hb
    · cases hb
    · rename_i h' hh
      split at hb
      · cases hb
      · rename_i l' hl
        simp only [Option.some.injEq, Prod.mk.injEq] at hb; obtain ⟨rfl, rfl⟩ := hb
        have h1 := fun code => asNat_sound (P := P) hh hlc hr code w
        have h2 := fun code => asNat_sound (P := P) hl (Nat.le_refl _) hr' code w
        exact ⟨by simp [Instr.sliceBounds, h1, h2], (h2 .index).2, (h1 .index).2⟩

theorem bounds_max {isSlice : Bool} {len cap : Nat} {lo : Option AV} {hi mx : AV} {vlo : Option Value} {vhi vmx : Value} (rlo : OptR C lo vlo) (rhi : VR C hi vhi) (rmx : VR C mx vmx) (w : World) {lim m : Nat} (hlc : lim ≤ cap) {l h : Nat}
    (hm : asNat lim mx = some m) (hb : bounds2 m lo (some hi) = some (l, h)) : (Instr.sliceBounds isSlice len cap vlo (some vhi) (some vmx)).run P w = .ok (l, h, m) w ∧ l ≤ h ∧ h ≤ m ∧ m ≤ lim := by
  have h0 := fun code => asNat_sound (P := P) hm hlc rmx code w
  unfold bounds2 at hb
  rcases rlo with ⟨rfl, rfl⟩ | ⟨y', u', rfl, rfl, hr'⟩ <;> simp only at hb
  · split at hb
    · cases hb
    · rename_i h' hh
      simp only [Option.some.injEq, Prod.mk.injEq] at hb; obtain ⟨rfl, rfl⟩ := hb
      have h1 := fun code => asNat_sound (P := P) hh (Nat.le_refl _) rhi code w
      exact ⟨by simp [Instr.sliceBounds, h0, h1], Nat.zero_le _, (h1 .index).2, (h0 .index).2⟩
  · split at hb
    · cases hb
    · rename_i h' hh
      split at hb
      · cases hb
      · rename_i l' hl
        simp only [Option.some.injEq, Prod.mk.injEq] at hb; obtain ⟨rfl, rfl⟩ := hb
        have h1 := fun code => asNat_sound (P := P) hh (Nat.le_refl _) rhi code w
        have h2 := fun code => asNat_sound (P := P) hl (Nat.le_refl _) hr' code w
        exact ⟨by simp [Instr.sliceBounds, h0, h1, h2], (h2 .index).2, (h1 .index).2, (h0 .index).2⟩

theorem row_cut {row : List AV} {sz : Nat} (h : ∀ e, e ∈ row → e.cells.length = sz) (l k : Nat) : ∀ e, e ∈ (row.take k).drop l → e.cells.length = sz :=
  fun e he => h e (List.mem_of_mem_take (List.mem_of_mem_drop he))

/-- A piece of a row that is never written. -/
theorem slice_piece {sz b o : Nat} {row : List AV} {vs : List Value} {cap' : Cap} {m l h : Nat} (hsz : ∀ e, e ∈ row → e.cells.length = sz) (hl : (flat row).length = vs.length)
    (him : ∀ (j : Nat) v, vs[j]? = some v → C.im b (o + j) = some v) (hv : ∀ (j : Nat) a v, (flat row)[j]? = some a → vs[j]? = some v → VR C a v)
    (hlh : l ≤ h) (hh : h ≤ row.length) (hhm : h ≤ m) (hcap : m ≠ l → CapR C b (o + l * sz + (h - l) * sz) sz (h - l) (m - l) cap') (hcap0 : m = l → CapR C b (o + (h - l) * sz) sz (h - l) (m - l) cap') :
    VR C (.sl sz ((row.take h).drop l) cap') (.slice (if m = l then some ⟨b, o, none⟩ else some ((⟨b, o, none⟩ : Addr).add (l * sz))) (h - l) (m - l)) := by
  have hlen : ((row.take h).drop l).length = h - l := by simp; omega
  have hfl : flat ((row.take h).drop l) = ((flat row).take (h * sz)).drop (l * sz) := by
    rw [flat_drop (fun e he => hsz e (List.mem_of_mem_take he)), flat_take hsz]
  have r : VRs C (flat ((row.take h).drop l)) ((vs.take (h * sz)).drop (l * sz)) := by
    rw [hfl]; exact ((⟨hl, hv⟩ : VRs C (flat row) vs).take _).drop _
  by_cases e : m = l
  · rw [if_pos e]
    have hz : h - l = 0 := by omega
    have hnil : (row.take h).drop l = [] := List.eq_nil_of_length_eq_zero (by omega)
    rw [hnil, hz]
    have := hcap0 e
    rw [hz] at this
    exact .sl (vs := []) (by simp) (by simp [flat]) (by simp) (by simp [flat]) (by simpa using this)
  · rw [if_neg e, add_plain, ← hlen]
    refine .sl (row_cut hsz _ _) r.len (fun j v hj => ?_) r.at_ (by rw [hlen]; exact hcap e)
    rw [List.getElem?_drop, List.getElem?_take] at hj
    split at hj
    · rw [Nat.add_assoc]; exact him _ v hj
    · cases hj

theorem sliceA_sound {x : AV} {sz : Nat} {lo hi mx : Option AV} {av : AV} (h : sliceA x sz lo hi mx = some av) {v : Value} {vlo vhi vmx : Option Value} (hx : VR C x v) (rlo : OptR C lo vlo) (rhi : OptR C hi vhi) (rmx : OptR C mx vmx)
    (hmh : vmx ≠ none → vhi ≠ none) {t e : TypeId} (ht : P.underlying t = some (.slice e)) (hs : sizeIs P e sz = true) (w : World) :
    ∃ u, (Instr.sliceAt t v vlo vhi vmx).run P w = .ok u w ∧ VR C av u := by
  have hrun : (Instr.sliceAt t v vlo vhi vmx).run P w = (Instr.slice t v vlo vhi vmx).run P w := by
    simp [Instr.sliceAt, run_underlying ht]
  rw [hrun]
  unfold sliceA at h
  split at h
  · rename_i sz' row cap
    split at h
    · rename_i hsz'
      subst hsz'
      -- the shape
      obtain ⟨base, c, rfl, hlc, hpiece⟩ : ∃ (base : Option Addr) (c : Nat), v = .slice base row.length c ∧ row.length ≤ c ∧
          ∀ (m l h : Nat) (cap' : Cap), l ≤ h → h ≤ row.length → h ≤ m → m ≤ c → ((cap' = .exact ∧ h = m) ∨ cap' = .no ∨ (cap' = cap ∧ (h = row.length ∧ (l < h ∨ cap.isTok = false)) ∧ m = c)) →
            VR C (.sl sz' ((row.take h).drop l) cap') (.slice (if m = l then base else base.map (·.add (l * sz'))) (h - l) (m - l)) := by
        cases hx with
        | @sl0 _ _ base =>
          refine ⟨base, 0, rfl, Nat.le_refl _, fun m l h cap' h1 h2 h3 h4 h5 => ?_⟩
          obtain rfl : m = 0 := by omega
          obtain rfl : h = 0 := by omega
          obtain rfl : l = 0 := by omega
          simp; exact .sl0
        | sl hsz hl him hv hcr =>
          rename_i b o c vs
          refine ⟨some ⟨b, o, none⟩, c, rfl, hcr.le, fun m l h cap' h1 h2 h3 h4 h5 => ?_⟩
          simp only [Option.map_some]
          refine slice_piece hsz hl him hv h1 h2 h3 (fun hne => ?_) (fun he => ?_)
          · rcases h5 with ⟨rfl, rfl⟩ | rfl | ⟨rfl, ⟨rfl, h6⟩, rfl⟩
            · rfl
            · show h - l ≤ m - l; omega
            · cases cap' with
              | exact => simp only [CapR] at hcr ⊢; omega
              | no => simp only [CapR] at hcr ⊢; omega
              | tok k =>
                obtain ⟨hcr, htk⟩ := hcr
                · refine ⟨by omega, ?_⟩
                  rw [htk]
                  simp only [Option.some.injEq, Prod.mk.injEq, true_and]
                  have e1 : row.length * sz' = l * sz' + (row.length - l) * sz' := by rw [← Nat.add_mul]; congr 1; omega
                  have e2 : m - l - (row.length - l) = m - row.length := by omega
                  rw [e2]; omega
          · rcases h5 with ⟨rfl, rfl⟩ | rfl | ⟨rfl, ⟨rfl, h6⟩, rfl⟩
            · rfl
            · show h - l ≤ m - l; omega
            · cases cap' with
              | exact => simp only [CapR] at hcr ⊢; omega
              | no => simp only [CapR] at hcr ⊢; omega
              | tok k => rcases h6 with h6 | h6
                         · omega
                         · cases h6
      split at h
      · rcases rmx with ⟨_, rfl⟩ | ⟨y, u, hh, _, _⟩
        · split at h
          · rename_i l k hb
            cases h
            obtain ⟨h1, h2, h3⟩ := bounds_nomax (P := P) (isSlice := true) rlo rhi w hlc hb
            refine ⟨_, by simp [Instr.slice, run_underlying ht, h1, run_sizeOf hs], hpiece c l k _ h2 h3 (by omega) (Nat.le_refl _) ?_⟩
            by_cases e1 : k = row.length ∧ (l < k ∨ cap.isTok = false)
            · rw [if_pos e1]; exact .inr (.inr ⟨rfl, e1, rfl⟩)
            · rw [if_neg e1]; exact .inr (.inl rfl)
          · cases h
        · cases hh
      · rename_i mm
        rcases rmx with ⟨hh, _⟩ | ⟨y, um, hh, rfl, rm⟩
        · cases hh
        · cases hh
          split at h
          · cases h
          · rename_i m hm
            rcases rhi with ⟨_, rfl⟩ | ⟨yh, uh, rfl, rfl, rh⟩
            · exact absurd rfl (hmh (by simp))
            · split at h
              · rename_i l k hb
                cases h
                obtain ⟨h1, h2, h3, h4⟩ := bounds_max (P := P) (isSlice := true) (len := row.length) rlo rh rm w hlc hm hb
                refine ⟨_, by simp [Instr.slice, run_underlying ht, h1, run_sizeOf hs], hpiece m l k _ h2 (by omega) h3 (by omega) ?_⟩
                by_cases e1 : k = m
                · rw [if_pos e1]; exact .inl ⟨rfl, e1⟩
                · rw [if_neg e1]; exact .inr (.inl rfl)
              · cases h
    · cases h
  · rename_i sz' id off len
    split at h
    · rename_i hsz'
      subst hsz'
      cases hx with
      | bs hb ho hc =>
      rename_i b off' c
      split at h
      · rcases rmx with ⟨_, rfl⟩ | ⟨y, u, hh, _, _⟩
        · split at h
          · rename_i l k hbd
            cases h
            obtain ⟨h1, h2, h3⟩ := bounds_nomax (P := P) (isSlice := true) rlo rhi w hc hbd
            refine ⟨.slice (if c = l then some ⟨b, off', none⟩ else (some (⟨b, off', none⟩ : Addr)).map (·.add (l * sz'))) (k - l) (c - l), by simp [Instr.slice, run_underlying ht, h1, run_sizeOf hs], ?_⟩
            by_cases e1 : c = l
            · rw [if_pos e1]
              exact .bs hb (.inl (by omega)) (by omega)
            · rw [if_neg e1]
              simp only [Option.map_some, add_plain]
              refine .bs hb ?_ (by omega)
              rcases ho with ho | ho
              · left; omega
              · right; rw [ho]
          · cases h
        · cases hh
      · cases h
    · cases h
  · cases h
end
end Go.Pm
end

section
set_option linter.unusedSimpArgs false
set_option linter.unusedVariables false
set_option linter.unusedSectionVars false
/- The pure machine: each operation that is no call, together. -/
set_option linter.unusedSimpArgs false
set_option linter.unusedVariables false
namespace Go.Pm
open Go.RowKit (Below)

section
variable {P : Program} {G : Globals} {B : Nat} {C : Ctx} {N : Nat} {env : Env} {a : Act} {σ : Store} {w : World}

theorem okXo_opt (er : ER C N env a.tmps) (gr : GR G C) {x : Option Operand} {ax : Option AX} (hok : okXo x ax = true) {av : Option AV} (h : optEv G env ax = some av) : OptR C av (x.map a.eval) := by
  rcases okXo_sound er gr hok h with ⟨rfl, rfl⟩ | ⟨y, v, rfl, rfl, hr⟩
  · exact .inl ⟨rfl, rfl⟩
  · exact .inr ⟨v, a.eval y, rfl, rfl, hr⟩

theorem foldI_sound {up : Bool} {k : IntKind} (w : World) : ∀ {acc : Int} {avs : List AV} {vs : List Value} {r : AV}, foldI up k acc avs = some r → VRs C avs vs →
    ∃ v, (vs.foldlM (if up then Builtin.max2 else Builtin.min2) (.int k acc) : Sem Value).run P w = .ok v w ∧ VR C r v := by
  intro acc avs
  induction avs generalizing acc with
  | nil =>
    intro vs r h hr
    obtain rfl := hr.nil_inv
    simp only [foldI, Option.some.injEq] at h; subst h
    exact ⟨_, by simp, .int⟩
  | cons x xs ih =>
    intro vs r h hr
    obtain ⟨v, us, rfl, hv, hr'⟩ := hr.cons_inv
    cases x with
    | int k' y =>
      cases hv
      simp only [foldI] at h
      obtain ⟨u, h1, h2⟩ := ih h hr'
      refine ⟨u, ?_, h2⟩
      cases up
      · simp only [Bool.false_eq_true, if_false] at h1 ⊢
        simp only [List.foldlM_cons, Sem.run_bind]
        have : (Builtin.min2 (.int k acc) (.int k' y)).run P w = .ok (.int k (if y < acc then y else acc)) w := rfl
        rw [this]; exact h1
      · simp only [if_true] at h1 ⊢
        simp only [List.foldlM_cons, Sem.run_bind]
        have : (Builtin.max2 (.int k acc) (.int k' y)).run P w = .ok (.int k (if y > acc then y else acc)) w := rfl
        rw [this]; exact h1
    | _ => simp [foldI] at h

theorem bytesOf_sound {f : Value → ByteArray → Sem (ForInStep ByteArray)} (hf : ∀ n r, f (.int .u8 n) r = pure (.yield (r.push (UInt8.ofNat n.toNat)))) :
    ∀ {row : List AV} {s : List UInt8}, bytesOf row = some s → ∀ {vs : List Value}, VRs C row vs → ∀ (acc : ByteArray), (forIn vs acc f : Sem ByteArray).run P w = .ok ⟨acc.data ++ s.toArray⟩ w := by
  intro row
  induction row with
  | nil => intro s h vs hr acc; obtain rfl := hr.nil_inv; simp only [bytesOf, Option.some.injEq] at h; subst h; simp
  | cons x xs ih =>
    intro s h vs hr acc
    obtain ⟨v, us, rfl, hv, hr'⟩ := hr.cons_inv
    unfold bytesOf at h
    split at h
    · rename_i e; cases e
    · rename_i n r e
      cases e
      split at h
      · rename_i s' hs
        cases h
        cases hv
        simp only [List.forIn_cons, hf, Sem.run_bind, Sem.run_pure, Result.andThen_ok, pure_bind]
        rw [ih hs hr']
        congr 1
        apply ByteArray.ext
        simp [ByteArray.push]
      · cases h
    · cases h

theorem chunks_flat {sz : Nat} : ∀ (n : Nat) (cs : List AV), cs.length = n * sz → flat (chunks sz n cs) = cs ∧ (chunks sz n cs).length = n ∧ ∀ e, e ∈ chunks sz n cs → e.cells.length = sz := by
  intro n
  induction n with
  | zero => intro cs h; have : cs = [] := List.eq_nil_of_length_eq_zero (by simpa using h); subst this; simp [chunks, flat]
  | succ n ih =>
    intro cs h
    have hl : (cs.drop sz).length = n * sz := by simp [h, Nat.add_mul]
    obtain ⟨h1, h2, h3⟩ := ih _ hl
    refine ⟨?_, by simp [chunks, h2], ?_⟩
    · simp only [chunks, flat_cons, h1, AV.cells, List.take_append_drop]
    · intro e he
      simp only [chunks, List.mem_cons] at he
      rcases he with rfl | he
      · simp [AV.cells, h, Nat.add_mul]
      · exact h3 e he

theorem rowOf_flat {sz len : Nat} {cs : List AV} (h : cs.length = len * sz) (hc : cs.all AV.isCell = true) : flat (rowOfCells sz len cs) = cs ∧ (rowOfCells sz len cs).length = len ∧ ∀ e, e ∈ rowOfCells sz len cs → e.cells.length = sz := by
  unfold rowOfCells
  split
  · rename_i e
    subst e
    have hl : cs.length = len := by omega
    rw [List.take_of_length_le (by omega)]
    refine ⟨flat_cells _ hc, hl, fun e he => ?_⟩
    have := List.all_eq_true.1 hc e he
    cases e <;> first | rfl | (simp [AV.isCell] at this)
  · exact chunks_flat len cs h

theorem okPartsS_sound {sz : Nat} : ∀ {parts : List (Nat × Operand)} {ps : List (Nat × AX)}, okPartsS parts ps = true →
    okParts (fun i => some (i * sz, sz)) parts (ps.map fun (i, x) => (i * sz, sz, x)) = true := by
  intro parts
  induction parts with
  | nil => intro ps h; cases ps with
    | nil => rfl
    | cons _ _ => simp [okPartsS] at h
  | cons p parts ih =>
    obtain ⟨i, x⟩ := p
    intro ps h
    cases ps with
    | nil => simp [okPartsS] at h
    | cons q ps =>
      obtain ⟨j, ax⟩ := q
      simp only [okPartsS, Bool.and_eq_true, beq_iff_eq] at h
      obtain ⟨⟨rfl, hx⟩, hr⟩ := h
      simp [okParts, hx, ih hr]
theorem pickSl_eq {sz : Nat} : ∀ (ps : List (Nat × AX)), pickSl G env sz ps = pickParts G env (ps.map fun (i, x) => (i * sz, sz, x)) := by
  intro ps
  induction ps with
  | nil => rfl
  | cons p ps ih => obtain ⟨i, x⟩ := p; simp only [pickSl, List.map_cons, pickParts, ih]

theorem replicate_get {α : Type} (l : List α) : ∀ (n k : Nat), (List.replicate n l).flatten[k]? = if k < n * l.length then l[k % l.length]? else none := by
  intro n
  induction n with
  | zero => intro k; simp
  | succ n ih =>
    intro k
    rw [List.replicate_succ, List.flatten_cons, List.getElem?_append]
    split
    · rename_i hk
      rw [if_pos (by rw [Nat.add_mul]; omega), Nat.mod_eq_of_lt hk]
    · rename_i hk
      rw [ih]
      rw [Nat.add_mul]
      by_cases e : k - l.length < n * l.length
      · rw [if_pos e, if_pos (by omega)]
        congr 1
        conv => rhs; rw [show k = (k - l.length) + l.length by omega, Nat.add_mod_right]
      · rw [if_neg e, if_neg (by omega)]

theorem zeros_sound {zero : List AV} {z : Array Value} (hz : VRs C zero z.toList) (len : Nat) : VRs C (List.replicate len zero).flatten ((Array.range (len * z.size)).map (z[· % z.size]!)).toList := by
  have hl : zero.length = z.size := by simpa using hz.len
  refine ⟨by simp [hl], fun j x v hx hv => ?_⟩
  rw [replicate_get] at hx
  split at hx
  · rename_i hj
    have hpos : 0 < z.size := by
      rcases Nat.eq_zero_or_pos z.size with h0 | h0
      · rw [hl, h0] at hj; omega
      · exact h0
    have hm : j % z.size < z.size := Nat.mod_lt _ hpos
    rw [hl] at hx hj
    simp [hj] at hv
    refine hz.at_ (j % z.size) x v hx ?_
    rw [← hv]
    simp [hm]
  · cases hx

theorem bytesOf_rowOk : ∀ {l : List AV} {s : List UInt8}, bytesOf l = some s → rowOk 1 l = true ∧ l.all AV.isCell = true := by
  intro l
  induction l with
  | nil => intro s _; exact ⟨rfl, rfl⟩
  | cons x l ih =>
    intro s hl
    unfold bytesOf at hl
    split at hl
    · rename_i e; cases e
    · rename_i n r e
      cases e
      split at hl
      · rename_i s' hs'
        obtain ⟨h1, h2⟩ := ih hs'
        simp only [rowOk, List.all_cons, Bool.and_eq_true]
        exact ⟨⟨⟨rfl, rfl⟩, h1⟩, rfl, h2⟩
      · cases hl
    · cases hl

theorem b2s_sound (sr : SR B C σ w) {x : AV} {v : Value} (hx : VR C x v) {av : AV} (h : b2s σ x = some av) :
    ∃ base len c u, v = .slice base len c ∧ (Conv.bytesToString v).run P w = .ok u w ∧ VR C av u := by
  unfold b2s at h
  split at h
  · cases h
  · rename_i row hns hsrc
    simp only [Option.map_eq_some_iff] at h
    obtain ⟨str, hbs, rfl⟩ := h
    obtain ⟨hok, hall⟩ := bytesOf_rowOk hbs
    obtain ⟨n, news, hn, hr, hcell, hlen, hfirst⟩ := src_sound (P := P) sr hx hsrc hok
    rw [flat_cells _ hall] at hr
    have hf := hfirst w (fun _ _ => rfl)
    have hfin : (ByteArray.mk (ByteArray.empty.data ++ str.toArray)) = ByteArray.mk str.toArray := by
      apply ByteArray.ext
      show (#[] : Array UInt8) ++ str.toArray = str.toArray
      simp
    cases hx with
    | str => exact (hns _ rfl).elim
    | @sl0 _ _ base =>
      simp [srcRow] at hsrc
      obtain ⟨_, rfl⟩ := hsrc
      simp only [bytesOf, Option.some.injEq] at hbs; subst hbs
      refine ⟨base, 0, 0, .string ⟨#[]⟩, rfl, ?_, .str (s := [])⟩
      cases base with
      | none => rfl
      | some a =>
        simp only [Conv.bytesToString, loadCells, loadCellsFrom, Sem.run_bind, Sem.run_pure, Result.andThen_ok]
        rfl
    | sl hsz hl him hv' hc' =>
      rename_i sz row' cap b o c vs
      have hn' : n = row'.length := by
        simp only [Builtin.lenOf] at hlen
        injection hlen with h1; exact h1.symm
      subst hn'
      simp only [Builtin.firstCells, Nat.mul_one] at hf
      refine ⟨_, _, _, .string ⟨str.toArray⟩, rfl, ?_, .str⟩
      simp only [Conv.bytesToString, Sem.run_bind, hf, Result.andThen_ok]
      rw [← Array.forIn_toList]
      simp only [pure_bind]
      rw [bytesOf_sound (fun _ _ => rfl) hbs hr]
      simp only [Result.andThen_ok, Sem.run_pure, hfin]
    | bs hb' ho' hc' =>
      rename_i sz id off len b off' c
      have hn' : n = len := by
        simp only [Builtin.lenOf] at hlen
        injection hlen with h1; exact h1.symm
      subst hn'
      simp only [Builtin.firstCells, Nat.mul_one] at hf
      refine ⟨_, _, _, .string ⟨str.toArray⟩, rfl, ?_, .str⟩
      simp only [Conv.bytesToString, Sem.run_bind, hf, Result.andThen_ok]
      rw [← Array.forIn_toList]
      simp only [pure_bind]
      rw [bytesOf_sound (fun _ _ => rfl) hbs hr]
      simp only [Result.andThen_ok, Sem.run_pure, hfin]
    | _ => simp [srcRow] at hsrc
  · cases h
end
end Go.Pm
end

section
set_option linter.unusedSimpArgs false
set_option linter.unusedVariables false
set_option linter.unusedSectionVars false
/- The pure machine: each operation that is no call, together. -/
set_option linter.unusedSimpArgs false
set_option linter.unusedVariables false
namespace Go.Pm
open Go.RowKit (Below)

section
variable {P : Program} {G : Globals} {B : Nat} {C : Ctx} {N : Nat} {env : Env} {a : Act} {σ : Store} {w : World} {call : CallA}

/-- Is it a call of a function? -/
def AOp.isCall : AOp → Bool
  | .call .. | .callv .. => true
  | _ => false
def AOp.isPanic : AOp → Bool
  | .panic _ => true
  | _ => false

theorem opt2 {α β : Type} {x : Option α} {f : α → Option β} {r : β} (h : (match x with | some v => f v | none => none) = some r) : ∃ v, x = some v ∧ f v = some r := by
  cases x with
  | none => cases h
  | some v => exact ⟨v, rfl, h⟩

theorem sizeIs_info {t : TypeId} {n : Nat} (h : sizeIs P t n = true) : ∃ i, P.info? t = some i ∧ i.size = n := by
  unfold sizeIs at h
  split at h
  · rename_i i hi; exact ⟨i, hi, eq_of_beq h⟩
  · cases h

theorem bytes_le {bytes : Nat} {n : Int} (h : 0 ≤ n) (hb : n.toNat * bytes ≤ 281474976710656) : (bytes : Int) * n ≤ 281474976710656 := by
  have h1 : ((bytes : Int) * n) = ((n.toNat * bytes : Nat) : Int) := by rw [Int.natCast_mul, Int.toNat_of_nonneg h, Int.mul_comm]
  rw [h1]
  exact Int.ofNat_le.2 hb

theorem sizeIs_at {t : TypeId} {n : Nat} (h : sizeIs P t n = true) {i : TypeInfo} (hi : P.info? t = some i) : i.size = n := by
  unfold sizeIs at h; rw [hi] at h; simpa using h

theorem bytesIs_at {t : TypeId} {n : Nat} (h : bytesIs P t n = true) {i : TypeInfo} (hi : P.info? t = some i) : i.bytes = n := by
  unfold bytesIs at h; rw [hi] at h; simpa using h

theorem zeroIs_at {t : TypeId} {cs : List AV} (h : zeroIs P t cs = true) (C : Ctx) : ∃ i z, P.info? t = some i ∧ i.zero = some z ∧ VRs C cs z.cells.toList := by
  unfold zeroIs at h
  split at h
  · rename_i i hi
    split at h
    · rename_i z hz
      exact ⟨i, z, hi, hz, okConsts_sound h⟩
    · cases h
  · cases h

theorem eqb_run {op : BinOp} {t : TypeId} {p q : Operand} {neg : Bool} {d : EqD} {x y : AV} {v u : Value} {b : Bool} (hop : (if neg then decide (op = .neq) else decide (op = .eql)) = true) (htop : eqTop d = true) (hns : nilSide d p q = true) (hg : (!P.eqGuardType P.depth t || isScalarD d) = true)
    (hb : eqA d x y = some b) (hx : VR C x v) (hy : VR C y u) (key : (Op.equalIn 10000 t v u).run P w = .ok b w) :
    (do eqGuard op t p q v u; binOp op t v u : Sem Value).run P w = .ok (.bool (if neg then !b else b)) w := by
  have fin : ∀ {v u : Value}, (∀ op, (eqGuard op t p q v u).run P w = .ok () w) → (binOp .eql t v u = do pure (.bool (← Op.equal t v u))) → (binOp .neq t v u = do pure (.bool (!(← Op.equal t v u)))) → (Op.equalIn 10000 t v u).run P w = .ok b w →
      (do eqGuard op t p q v u; binOp op t v u : Sem Value).run P w = .ok (.bool (if neg then !b else b)) w := by
    intro v u h1 h2 h3 h4
    cases neg
    · simp only [Bool.false_eq_true, if_false, decide_eq_true_eq] at hop ⊢
      subst hop
      rw [Sem.run_bind, h1, Result.andThen_ok, h2]
      simp only [Sem.run_bind, Op.equal, Op.maxDepth, h4, Result.andThen_ok, Sem.run_pure]
    · simp only [if_true, decide_eq_true_eq] at hop ⊢
      subst hop
      rw [Sem.run_bind, h1, Result.andThen_ok, h3]
      simp only [Sem.run_bind, Op.equal, Op.maxDepth, h4, Result.andThen_ok, Sem.run_pure]
  unfold eqTop at htop
  split at htop
  · simp only [eqA] at hb
    unfold eqCell at hb
    split at hb <;> first | (rename_i e; cases e; done) | skip
    · cases hx; cases hy
      exact fin (fun op => by cases op <;> simp [eqGuard]) rfl rfl key
    · cases hb
  · simp only [eqA] at hb
    unfold eqCell at hb
    split at hb <;> first | (rename_i e; cases e; done) | skip
    all_goals first
      | (cases hb; done)
      | (cases hx; cases hy; exact fin (fun op => by cases op <;> simp [eqGuard]) rfl rfl key)
  · simp only [eqA] at hb
    unfold eqCell at hb
    split at hb <;> first | (rename_i e; cases e; done) | skip
    all_goals first
      | (cases hb; done)
      | (cases hx; cases hy; exact fin (fun op => by cases op <;> simp [eqGuard]) rfl rfl key)
  · simp only [eqA] at hb
    unfold eqCell at hb
    split at hb <;> first | (rename_i e; cases e; done) | skip
    · cases hx; cases hy
      refine fin (fun op => ?_) rfl rfl key
      cases p <;> cases q <;> first
        | (simp [nilSide, isConst] at hns; done)
        | (cases op <;> simp [eqGuard])
    all_goals first
      | (cases hb; done)
      | (cases hx; cases hy; exact fin (fun op => by cases op <;> simp [eqGuard]) rfl rfl key)
  · have hg : P.eqGuardType P.depth t = false := by simpa [isScalarD] using hg
    unfold eqA at hb
    split at hb
    · rename_i e; cases e
    · cases hx; cases hy
      exact fin (fun op => by cases op <;> simp [eqGuard, hg]) rfl rfl key
    · rename_i e; cases e
    · cases hb
  · have hg : P.eqGuardType P.depth t = false := by simpa [isScalarD] using hg
    unfold eqA at hb
    split at hb
    · rename_i e; cases e
    · rename_i e; cases e
    · cases hx; cases hy
      exact fin (fun op => by cases op <;> simp [eqGuard, hg]) rfl rfl key
    · cases hb
  · cases htop

theorem freeze_new (W : World) (c : Array Value) (e : TypeId) (n : Nat) : (W.alloc (.cells c e)).freeze { block := W.heap.size, off := n } 1 = W.alloc (.cells c e (n, n + 1)) := by
  unfold World.freeze
  rw [if_neg (by omega)]
  unfold World.alloc
  simp only
  congr 1
  apply Array.ext_getElem?
  intro i
  rw [Array.getElem?_modify]
  by_cases hi : W.heap.size = i
  · subst hi; simp
  · rw [if_neg hi]
    simp only [Array.getElem?_push, if_neg (Ne.symm hi)]

theorem run_builtin {o : Oper} {c : Call} {b : Builtin} (ho : o.op = .call c) (hb : c.callee = .builtin b) {f : Array TypeId → TypeId → Array Value → Sem Value}
    (hf : ∀ at' ty cs args, builtin b at' ty cs args = (do pure (.value (← f at' ty args)))) {v : Value} {w' : World} (h : (f c.argTypes o.type (c.args.map a.eval)).run P w = .ok v w') :
    (execOp a.eval o).run P w = .ok (.value v) w' := by
  simp only [execOp, ho, resolve, hb, Sem.run_bind, Sem.run_pure, Result.andThen_ok, invoke, hf, h]

theorem call_goes (sr : SR B C σ w) (er : ER C N env a.tmps) (gr : GR G C) {o : Oper} {c : Call} {ao : AOp} (ho : o.op = .call c) (hok : okCall P c o.type ao = true) (hc : ao.isCall = false) (hp : ao.isPanic = false)
    {r : AOut} {σ' : Store} (h : evalOp call G env σ ao = some (r, σ')) : ∃ av, r = .ret av ∧ Goes P B C σ' w o a av := by
  unfold okCall at hok
  have hargs : ∀ {l : List Operand}, c.args.toList = l → c.args.map a.eval = (l.map a.eval).toArray := by
    intro l hl; rw [← hl]; apply Array.ext'; simp
  split at hok
  · simp [AOp.isCall] at hc
  · simp [AOp.isCall] at hc
  · -- len
    rename_i hb
    split at hok
    · rename_i x ax hl ht
      obtain ⟨t, ht0, ht1⟩ := Option.bind_eq_some_iff.1 ht
      simp only [evalOp] at h
      split at h
      · rename_i str hv
        cases h
        have rv := okX_sound er gr hok hv
        generalize hxv : a.eval x = xv at rv
        cases rv
        have hsz : (ByteArray.mk str.toArray).size = str.length := by simp [ByteArray.size]
        refine ⟨_, rfl, .same sr (v := .int .i64 str.length) (run_builtin ho hb (f := Builtin.len_) (fun _ _ _ _ => rfl) ?_) .int⟩
        rw [hargs hl]
        simp [Builtin.len_, ht0, hxv, run_underlying ht1, hsz, goInt]
      · cases h
    · rename_i x e ax hl ht
      obtain ⟨t, ht0, ht1⟩ := Option.bind_eq_some_iff.1 ht
      simp only [evalOp] at h
      split at h
      · rename_i sz row cap hv
        cases h
        have rv := okX_sound er gr hok hv
        generalize hxv : a.eval x = xv at rv
        refine ⟨_, rfl, .same sr (v := .int .i64 row.length) (run_builtin ho hb (f := Builtin.len_) (fun _ _ _ _ => rfl) ?_) .int⟩
        rw [hargs hl]
        cases rv <;> simp [Builtin.len_, ht0, hxv, run_underlying ht1, goInt]
      · rename_i sz id off len hv
        cases h
        have rv := okX_sound er gr hok hv
        generalize hxv : a.eval x = xv at rv
        refine ⟨_, rfl, .same sr (v := .int .i64 len) (run_builtin ho hb (f := Builtin.len_) (fun _ _ _ _ => rfl) ?_) .int⟩
        rw [hargs hl]
        cases rv <;> simp [Builtin.len_, ht0, hxv, run_underlying ht1, goInt]
      · cases h
    · rename_i x n e n' hl ht
      obtain ⟨t, ht0, ht1⟩ := Option.bind_eq_some_iff.1 ht
      obtain rfl : n = n' := eq_of_beq hok
      cases h
      refine ⟨_, rfl, .same sr (v := .int .i64 n) (run_builtin ho hb (f := Builtin.len_) (fun _ _ _ _ => rfl) ?_) .int⟩
      rw [hargs hl]
      simp [Builtin.len_, ht0, run_underlying ht1, goInt]
    · cases hok
  · -- append
    rename_i elem sz bytes ax ay hb
    split at hok
    · rename_i x y t u hl ht
      simp only [Bool.and_eq_true, bne_iff_ne] at hok
      obtain ⟨⟨⟨⟨⟨⟨⟨⟨hx, hy⟩, he⟩, hs⟩, hby⟩, hs0⟩, hb0⟩, hu⟩, hz⟩ := hok
      have ht' : P.underlying t = some (.slice elem) := by
        split at he
        · rename_i e he'; rw [he', eq_of_beq he]
        · cases he
      have hu' : (∃ e2, P.underlying u = some (.slice e2)) ∨ P.underlying u = some .string := by
        split at hu
        · rename_i e he'; exact .inl ⟨e, he'⟩
        · rename_i he'; exact .inr he'
        · cases hu
      obtain ⟨i, z, hi, hz0, hsz, hbi, hzs⟩ : ∃ i z, P.info? elem = some i ∧ i.zero = some z ∧ i.size = sz ∧ i.bytes = bytes ∧ z.cells.size = i.size := by
        split at hz
        · rename_i i hi
          obtain ⟨i', hi', hsz⟩ := sizeIs_info hs
          rw [hi] at hi'; cases hi'
          split at hz
          · rename_i z hz0
            refine ⟨i, z, hi, hz0, hsz, ?_, by simpa using hz⟩
            unfold bytesIs at hby
            rw [hi] at hby
            exact eq_of_beq hby
          · cases hz
        · cases hz
      simp only [evalOp] at h
      split at h
      · rename_i v1 v2 h1 h2
        split at h
        · rename_i rv σ1 happ
          cases h
          obtain ⟨C', w', v', k1, k2, k3, k4, k5⟩ := append_sound (P := P) (t := t) (ut := u) (ty := o.type) sr (okX_sound er gr hx h1) (okX_sound er gr hy h2) happ ht' hi hz0 hzs hsz hbi hb0 hs0 hu'
          have hat : c.argTypes = #[t, u] := by
            apply Array.ext'; rw [ht]
          refine ⟨_, rfl, C', w', v', .inl (run_builtin ho hb (f := Builtin.append_) (fun _ _ _ _ => rfl) ?_), k2, k3, k4, k5⟩
          rw [hargs hl, hat]
          exact k1
        · cases h
      · cases h
    · cases hok
  · -- min
    rename_i xs hb
    simp only [evalOp] at h
    split at h
    · rename_i vs hvs
      obtain ⟨r', hr', rfl, rfl⟩ := val_some h
      have rs := okXs_sound er gr hok hvs
      unfold minI at hr'
      split at hr'
      · rename_i k x rest
        obtain ⟨v, us, hl, hv, hrest⟩ := rs.cons_inv
        cases hv
        obtain ⟨u, k1, k2⟩ := foldI_sound (P := P) w hr' hrest
        refine ⟨_, rfl, .same sr (v := u) (run_builtin ho hb (f := Builtin.min_) (fun _ _ _ _ => rfl) ?_) k2⟩
        rw [hargs rfl, hl]
        simpa [Builtin.min_] using k1
      · cases hr'
    · cases h
  · -- max
    rename_i xs hb
    simp only [evalOp] at h
    split at h
    · rename_i vs hvs
      obtain ⟨r', hr', rfl, rfl⟩ := val_some h
      have rs := okXs_sound er gr hok hvs
      unfold maxI at hr'
      split at hr'
      · rename_i k x rest
        obtain ⟨v, us, hl, hv, hrest⟩ := rs.cons_inv
        cases hv
        obtain ⟨u, k1, k2⟩ := foldI_sound (P := P) w hr' hrest
        refine ⟨_, rfl, .same sr (v := u) (run_builtin ho hb (f := Builtin.max_) (fun _ _ _ _ => rfl) ?_) k2⟩
        rw [hargs rfl, hl]
        simpa [Builtin.max_] using k1
      · cases hr'
    · cases h
  · -- real
    rename_i x hb
    have hl : ∃ y, c.args.toList = [y] ∧ okX y x = true := by
      cases hl : c.args.toList with
      | nil => rw [hl] at hok; simp [okXs] at hok
      | cons y r => cases r with
        | nil => rw [hl] at hok; simp [okXs] at hok; exact ⟨y, rfl, hok⟩
        | cons _ _ => rw [hl] at hok; simp [okXs] at hok
    obtain ⟨y, hl, hx⟩ := hl
    simp only [evalOp] at h
    split at h
    · rename_i k re im hv
      cases h
      have rv := okX_sound er gr hx hv
      generalize hxv : a.eval y = xv at rv
      cases rv
      refine ⟨_, rfl, .same sr (v := .float k re) (run_builtin ho hb (f := Builtin.real_) (fun _ _ _ _ => rfl) ?_) .flt⟩
      rw [hargs hl]
      simp only [List.map_cons, List.map_nil, hxv]
      rfl
    · cases h
  · -- imag
    rename_i x hb
    have hl : ∃ y, c.args.toList = [y] ∧ okX y x = true := by
      cases hl : c.args.toList with
      | nil => rw [hl] at hok; simp [okXs] at hok
      | cons y r => cases r with
        | nil => rw [hl] at hok; simp [okXs] at hok; exact ⟨y, rfl, hok⟩
        | cons _ _ => rw [hl] at hok; simp [okXs] at hok
    obtain ⟨y, hl, hx⟩ := hl
    simp only [evalOp] at h
    split at h
    · rename_i k re im hv
      cases h
      have rv := okX_sound er gr hx hv
      generalize hxv : a.eval y = xv at rv
      cases rv
      refine ⟨_, rfl, .same sr (v := .float k im) (run_builtin ho hb (f := Builtin.imag_) (fun _ _ _ _ => rfl) ?_) .flt⟩
      rw [hargs hl]
      simp only [List.map_cons, List.map_nil, hxv]
      rfl
    · cases h
  · -- complex
    rename_i x1 x2 hb
    have hl : ∃ y z, c.args.toList = [y, z] ∧ okX y x1 = true ∧ okX z x2 = true := by
      cases hl : c.args.toList with
      | nil => rw [hl] at hok; simp [okXs] at hok
      | cons y r => cases r with
        | nil => rw [hl] at hok; simp [okXs] at hok
        | cons z r => cases r with
          | nil => rw [hl] at hok; simp [okXs] at hok; exact ⟨y, z, rfl, hok⟩
          | cons _ _ => rw [hl] at hok; simp [okXs] at hok
    obtain ⟨y, z, hl, hx, hz⟩ := hl
    simp only [evalOp] at h
    split at h
    · rename_i k re k' im hv hu
      split at h
      · rename_i e
        subst e
        cases h
        have rv := okX_sound er gr hx hv
        have ru := okX_sound er gr hz hu
        generalize hxv : a.eval y = xv at rv
        generalize hyv : a.eval z = yv at ru
        cases rv; cases ru
        refine ⟨_, rfl, .same sr (v := .complex k re im) (run_builtin ho hb (f := Builtin.complex_) (fun _ _ _ _ => rfl) ?_) .cplx⟩
        rw [hargs hl]
        simp only [List.map_cons, List.map_nil, hxv, hyv]
        have e : ∀ at' ty, Builtin.complex_ at' ty [Value.float k re, Value.float k im].toArray = if k = k then pure (.complex k re im) else stuck "complex: parts of different kinds" := fun _ _ => rfl
        rw [e, if_pos rfl]
        rfl
      · cases h
    · cases h
  · cases hok

theorem op_goes (sr : SR B C σ w) (er : ER C N env a.tmps) (gr : GR G C) {o : Oper} {ao : AOp} (hok : okOp P o ao = true) (hc : ao.isCall = false) (hp : ao.isPanic = false)
    {r : AOut} {σ' : Store} (h : evalOp call G env σ ao = some (r, σ')) : ∃ av, r = .ret av ∧ Goes P B C σ' w o a av := by
  unfold okOp at hok
  split at hok
  · -- move
    rename_i x ax ho
    obtain ⟨v, hv, rfl, rfl⟩ := val_some h
    exact ⟨v, rfl, .same sr (by simp [execOp, ho]) (okX_sound er gr hok hv)⟩
  · rename_i x ax ho
    obtain ⟨v, hv, rfl, rfl⟩ := val_some h
    exact ⟨v, rfl, .same sr (by simp [execOp, ho]) (okX_sound er gr hok hv)⟩
  · -- pick
    rename_i c x y c' x' y' ho
    simp only [Bool.and_eq_true] at hok
    simp only [evalOp] at h
    split at h
    · rename_i t u v h1 h2 h3
      cases h
      have rc := okX_sound er gr hok.1.1 h1
      have rx := okX_sound er gr hok.1.2 h2
      have ry := okX_sound er gr hok.2 h3
      generalize hcv : a.eval c = cv at rc
      cases rc
      refine ⟨_, rfl, .same sr (v := if t then a.eval x else a.eval y) (by simp [execOp, ho, hcv, asBool]) ?_⟩
      cases t
      · exact ry
      · exact rx
    · cases h
  · -- alloc
    rename_i t zero t' ho
    simp only [Bool.and_eq_true, beq_iff_eq] at hok
    obtain ⟨rfl, hz⟩ := hok
    cases h
    obtain ⟨z, hz1, hz2⟩ := zeroIs_parts hz C
    obtain ⟨C', l, sr', hb, _⟩ := sr.newBox (cs := zero) (c := z.cells) (e := some t) (e0 := t) (fr := (0, 0)) (by have := hz2.len; simp at this; rintro t' ⟨⟩; exact ⟨rfl, this.symm⟩) (by rw [List.take_of_length_le (by rw [hz2.len]; exact Nat.le_refl _)]; exact hz2) (by have := hz2.len; simp at this; omega) (by simp)
    exact ⟨_, rfl, C', _, .pointer (some ⟨w.heap.size, 0, none⟩), .inl (by simp [execOp, ho, Instr.alloc, hz1, newVar, newRow]), l, sr', Below.newBlock sr.hB _, .bp hb⟩
  · -- box
    rename_i t x t' n ax ho
    simp only [Bool.and_eq_true, beq_iff_eq] at hok
    obtain ⟨rfl, hx⟩ := hok
    simp only [evalOp] at h
    split at h
    · rename_i v hv
      split at h
      · cases h
        have rv := (okX_sound er gr hx hv).cells
        obtain ⟨C', l, sr', hb, _⟩ := sr.newBox (cs := v.cells) (c := (a.eval x).cells) (e := some t) (e0 := t) (fr := (0, 0)) (by have := rv.len; simp at this; rintro t' ⟨⟩; exact ⟨rfl, this.symm⟩) (by rw [List.take_of_length_le (by rw [rv.len]; exact Nat.le_refl _)]; exact rv) (by have := rv.len; simp at this; omega) (by simp)
        exact ⟨_, rfl, C', _, .pointer (some ⟨w.heap.size, 0, none⟩), .inl (by simp [execOp, ho, Instr.box, newVar, newRow]), l, sr', Below.newBlock sr.hB _, .bp hb⟩
      · cases h
    · cases h
  · -- a box that is never written
    rename_i t x ax ho
    simp only [evalOp] at h
    split at h
    · rename_i v hv
      cases h
      have rv := (okX_sound er gr hok hv).cells
      obtain ⟨C1, l1, sr1, im1, _, _, _⟩ := sr.newRow (vs := (a.eval x).cells.toList) (c := (a.eval x).cells) (e := t) (fr := (0, 0)) (fun j v hj => by simpa using hj)
      refine ⟨_, rfl, C1, _, .pointer (some ⟨w.heap.size, 0, none⟩), .inl (by simp [execOp, ho, Instr.box, newVar, newRow]), l1, sr1, Below.newBlock sr.hB _, ?_⟩
      have r1 := rv.mono l1
      have := VR.ip (C := C1) (sz := v.cells.length) (row := [.agg v.cells]) (i := 0) (off := 0) (b := w.heap.size) (o := 0) (vs := (a.eval x).cells.toList) (by intro e he; simp at he; subst he; rfl) (by simpa [flat, AV.cells] using r1.len) (by simpa using im1) (by simpa [flat, AV.cells] using r1.at_)
      simpa using this
    · cases h
  · -- a slice of a new row
    rename_i t l c sz bytes zero elem n ho
    simp only [Bool.and_eq_true, beq_iff_eq] at hok
    obtain ⟨⟨⟨⟨⟨⟨ht, hl⟩, hcc⟩, hsz⟩, hby⟩, hz⟩, hzl⟩ := hok
    split at ht
    case h_2 => cases ht
    rename_i e ht'
    simp only [beq_iff_eq] at ht
    subst ht
    simp only [evalOp] at h
    split at h
    · rename_i kn nn hn
      split at h
      · rename_i hb
        cases h
        obtain ⟨hb1, hb2, hb3⟩ := hb
        have rl := okX_sound er gr hl hn
        have rc := okX_sound er gr hcc hn
        generalize hlv : a.eval l = lv at rl
        generalize hcv : a.eval c = cv at rc
        cases rl; cases rc
        obtain ⟨i, z, hi, hzi, hzr⟩ : ∃ i z, P.info? e = some i ∧ i.zero = some z ∧ VRs C zero z.cells.toList := zeroIs_at hz C
        have his : i.size = sz := sizeIs_at hsz hi
        have hib : i.bytes = bytes := bytesIs_at hby hi
        have hzsz : z.cells.size = sz := by rw [← hzl, hzr.len]; simp
        have hrun := run_make (P := P) w t e i z ht' hi hzi kn kn nn nn hb1 (Int.le_refl _) (by rw [hib]; exact bytes_le hb1 hb2) hb3
        have hcells := zeros_sound hzr nn.toNat
        have hmade : madeCells z.cells (nn.toNat * i.size) = (Array.range (nn.toNat * z.cells.size)).map (z.cells[· % z.cells.size]!) := by rw [his, hzsz]; simp only [madeCells, hzsz]
        rw [← hmade] at hcells
        obtain ⟨C', l', sr', hb', _⟩ := sr.newBox (cs := (List.replicate nn.toNat zero).flatten) (c := madeCells z.cells (nn.toNat * i.size)) (e := some e) (e0 := e) (fr := (0, 0)) (by have := hcells.len; rw [Array.length_toList] at this; rintro t' ⟨⟩; exact ⟨rfl, this.symm⟩)
          (by rw [List.take_of_length_le (by rw [hcells.len]; exact Nat.le_refl _)]; exact hcells) (by have := hcells.len; rw [Array.length_toList] at this; exact Nat.le_of_eq this) (by simp)
        refine ⟨_, rfl, C', _, .slice (some ⟨w.heap.size, 0, none⟩) nn.toNat nn.toNat, .inl ?_, l', sr', Below.newBlock sr.hB _, .bs hb' (.inr rfl) (Nat.le_refl _)⟩
        simp only [execOp, ho, hlv, hcv, Sem.run_bind, hrun, Result.andThen_ok, Sem.run_pure]
      · cases h
    · cases h
  · -- an empty slice with room
    rename_i t l c sz bytes elem n ho
    simp only [Bool.and_eq_true, beq_iff_eq] at hok
    obtain ⟨⟨⟨⟨⟨ht, hl⟩, hcc⟩, hsz⟩, hby⟩, hz⟩ := hok
    split at ht
    case h_2 => cases ht
    rename_i e ht'
    simp only [beq_iff_eq] at ht
    subst ht
    simp only [evalOp] at h
    split at h
    · rename_i kn nn hn
      split at h
      · rename_i hb
        cases h
        obtain ⟨hb1, hb2, hb3⟩ := hb
        have rl := okX_sound er gr hl rfl
        have rc := okX_sound er gr hcc hn
        generalize hlv : a.eval l = lv at rl
        generalize hcv : a.eval c = cv at rc
        cases rl; cases rc
        split at hz
        case h_2 => cases hz
        rename_i i hi
        split at hz
        case h_2 => cases hz
        rename_i z hzi
        have his : i.size = sz := sizeIs_at hsz hi
        have hib : i.bytes = bytes := bytesIs_at hby hi
        have hrun := run_make (P := P) w t e i z ht' hi hzi .i64 kn 0 nn (Int.le_refl _) hb1 (by rw [hib]; exact bytes_le hb1 hb2) hb3
        obtain ⟨C1, l1, sr1, _, im1', tk1, bx1⟩ := sr.newRow (vs := []) (c := madeCells z.cells (nn.toNat * i.size)) (e := e) (fr := (0, 0)) (by simp)
        obtain ⟨C2, l2, sr2, tk2, im2, bx2⟩ := sr1.newTok (b := w.heap.size) (s := 0) (e := nn.toNat * i.size) (heap_alloc_new w _) (by rw [size_madeCells]; exact Nat.le_refl _) (fun o _ _ => im1' o (Nat.zero_le _)) (.inl rfl)
          (fun id hid => by
            have hlt : w.heap.size < w.heap.size := own_lt sr (by simpa [own, tk1, bx1] using hid)
            omega) sr.hB
        refine ⟨_, rfl, C2, _, .slice (some ⟨w.heap.size, 0, none⟩) 0 nn.toNat, .inl ?_, l1.trans l2, sr2, Below.newBlock sr.hB _, ?_⟩
        · simp only [execOp, ho, hlv, hcv, Sem.run_bind, hrun, Result.andThen_ok, Sem.run_pure, Int.toNat_zero]
        · refine .sl (vs := []) (by simp) (by simp [flat]) (by simp) (by simp [flat]) ?_
          refine ⟨Nat.zero_le _, ?_⟩
          rw [tk2]; simp [his]
      · cases h
    · cases h
  · -- build
    rename_i t parts zero ps ho
    simp only [Bool.and_eq_true] at hok
    obtain ⟨hz, hps⟩ := hok
    simp only [evalOp] at h
    split at h
    · rename_i vs hvs
      split at h
      · rename_i cs hcs
        cases h
        obtain ⟨i, hi, z, hz0, hz2⟩ : ∃ i, P.info? t = some i ∧ ∃ z, i.zero = some z ∧ VRs C zero z.cells.toList := by
          unfold zeroIs at hz
          split at hz
          · rename_i i hi
            split at hz
            · rename_i z hz0; exact ⟨i, hi, z, hz0, okConsts_sound hz⟩
            · cases hz
          · cases hz
        have hmap : (parts.map fun (i, x) => (i, a.eval x)).toList = parts.toList.map fun (i, x) => (i, a.eval x) := by simp
        split at hps
        · rename_i fs hfs
          split at hps
          · rename_i places hpl
            obtain ⟨cells, k1, k2⟩ := fill_sound er gr hps hvs hcs hz2
            have hb : P.built t (parts.map fun (i, x) => (i, a.eval x)).toList = some cells := by
              simp only [Program.built, hi, hfs, hz0, hpl]
              rw [hmap]; exact k1
            refine ⟨_, rfl, .same sr (v := .agg cells) (by simp only [execOp, ho]; simp only [Sem.run_bind, run_build w t _ cells hb, Result.andThen_ok, Sem.run_pure]) ?_⟩
            have : VR C (.agg cs) (.agg cells.toList.toArray) := .agg k2.len k2.at_
            simpa using this
          · cases hps
        · rename_i len e hfs
          split at hps
          · rename_i ie hie
            obtain ⟨cells, k1, k2⟩ := fill_sound er gr hps hvs hcs hz2
            have hb : P.built t (parts.map fun (i, x) => (i, a.eval x)).toList = some cells := by
              simp only [Program.built, hi, hfs, hz0, hie]
              rw [hmap]; exact k1
            refine ⟨_, rfl, .same sr (v := .agg cells) (by simp only [execOp, ho]; simp only [Sem.run_bind, run_build w t _ cells hb, Result.andThen_ok, Sem.run_pure]) ?_⟩
            have : VR C (.agg cs) (.agg cells.toList.toArray) := .agg k2.len k2.at_
            simpa using this
          · cases hps
        · cases hps
      · cases h
    · cases h
  · -- buildSlice
    rename_i t len parts elem sz zero len' ps ho
    simp only [Bool.and_eq_true, beq_iff_eq, bne_iff_ne, decide_eq_true_eq] at hok
    obtain ⟨⟨⟨⟨⟨⟨⟨h1, rfl⟩, h3⟩, h4⟩, h5⟩, h6⟩, h7⟩, h8⟩ := hok
    have hu : P.underlying t = some (.slice elem) := by
      split at h1
      · rename_i e he; rw [he, eq_of_beq h1]
      · cases h1
    simp only [evalOp] at h
    split at h
    · rename_i vs hvs
      rw [pickSl_eq] at hvs
      split at h
      · rename_i cs hcs
        split at h
        · rename_i hcell
          cases h
          obtain ⟨z, hz1, hz2⟩ := zeroIs_parts h6 C
          have hzs : z.cells.size = sz := by have := hz2.len; simp at this; omega
          obtain ⟨cells, k1, k2⟩ := fill_sound er gr (okPartsS_sound (sz := sz) h8) hvs hcs (zeros_sound hz2 len)
          have hrow : cells.size = len * sz := by
            have hl : ∀ {ps : List (Nat × Nat × AV)} {zero cs : List AV}, fillA zero ps = some cs → cs.length = zero.length := by
              intro ps
              induction ps with
              | nil => intro zero cs h; simp only [fillA, Option.some.injEq] at h; rw [h]
              | cons p ps ih =>
                obtain ⟨o, n, v⟩ := p
                intro zero cs h
                simp only [fillA] at h
                split at h
                · rw [ih h, putAt_length]
                · cases h
            have := k2.len
            rw [hl hcs] at this
            simp [h7] at this
            omega
          have hcl : cs.length = len * sz := by rw [k2.len]; simpa using hrow
          obtain ⟨f1, f2, f3⟩ := rowOf_flat (sz := sz) (len := len) hcl hcell
          obtain ⟨C', l, sr', im1, _, tk1, bx1⟩ := sr.newRow (vs := cells.toList) (c := cells) (e := elem) (fr := (0, 0)) (fun j v hj => by simpa using hj)
          refine ⟨_, rfl, C', _, .slice (some ⟨w.heap.size, 0, none⟩) len len, .inl ?_, l, sr', Below.newBlock sr.hB _, ?_⟩
          · have hzz : ∀ w, (if len * sz = 0 then pure #[] else do pure (← zeroValue elem).cells : Sem (Array Value)).run P w = .ok (if len * sz = 0 then #[] else z.cells) w := by
              intro w; split <;> simp [hz1]
            have hlim : ¬ (len * sz > 16777216) := by omega
            have hmap : (parts.map fun (i, x) => (i, a.eval x)).toList = parts.toList.map fun (i, x) => (i, a.eval x) := by simp
            have hcells : (Array.range (len * sz)).map ((if len * sz = 0 then #[] else z.cells)[· % (if len * sz = 0 then #[] else z.cells).size]!) = (Array.range (len * z.cells.size)).map (z.cells[· % z.cells.size]!) := by
              rw [hzs]
              by_cases e : len * sz = 0
              · simp [e]
              · simp [e, hzs]
            simp only [execOp, ho, Instr.buildSlice, Sem.run_bind, run_underlying hu, Result.andThen_ok, run_sizeOf h3, Sem.run_ite]
            rw [if_neg (by omega)]
            simp only [Sem.run_pure, Result.andThen_ok, Sem.run_bind]
            split
            · rename_i e
              simp only [Sem.run_pure, Result.andThen_ok, if_pos e] at hcells ⊢
              rw [hcells, hmap, k1]
              simp [newRow]
            · rename_i e
              simp only [Sem.run_bind, hz1, Sem.run_pure, Result.andThen_ok, if_neg e] at hcells ⊢
              rw [hcells, hmap, k1]
              simp [newRow]
          · have r1 : VRs C' (flat (rowOfCells sz len cs)) cells.toList := by rw [f1]; exact k2.mono l
            have := VR.sl (C := C') (sz := sz) (row := rowOfCells sz len cs) (cap := .exact) (b := w.heap.size) (o := 0) (c := len) f3 r1.len (fun j v hj => by rw [Nat.zero_add]; exact im1 j v hj) r1.at_ f2.symm
            rwa [f2] at this
        · cases h
      · cases h
    · cases h
  · -- load
    rename_i t x n ax ho
    simp only [Bool.and_eq_true] at hok
    simp only [evalOp] at h
    split at h
    · rename_i v hv
      obtain ⟨r', hr', rfl, rfl⟩ := val_some h
      obtain ⟨u, k1, k2⟩ := loadAt_sound sr (okX_sound er gr hok.2 hv) hr' hok.1
      exact ⟨_, rfl, .same sr (v := u) (by simp only [execOp, ho]; simp only [Sem.run_bind, k1, Result.andThen_ok, Sem.run_pure]) k2⟩
    · cases h
  · -- store
    rename_i t x y n ax ay ho
    simp only [Bool.and_eq_true] at hok
    simp only [evalOp] at h
    split at h
    · rename_i v u hv hu
      split at h
      · rename_i σ1 hs
        cases h
        obtain ⟨w', k1, k2, k3⟩ := storeAt_sound sr (okX_sound er gr hok.1.2 hv) (okX_sound er gr hok.2 hu) hs hok.1.1
        refine ⟨_, rfl, C, w', undef, .inr ⟨?_, rfl⟩, .refl _ _, k2, k3, .tup (vs := []) rfl (by simp)⟩
        simp only [execOp, ho]
        simp only [Sem.run_bind, k1, Result.andThen_ok, Sem.run_pure]
      · cases h
    · cases h
  · -- nilCheck
    rename_i x ax ho
    simp only [evalOp] at h
    split at h
    · rename_i s r' i off hv
      cases h
      have hr := okX_sound er gr hok hv
      refine ⟨_, rfl, .same sr (v := a.eval x) ?_ hr⟩
      generalize hxv : a.eval x = xv at hr ⊢
      simp only [execOp, ho, hxv]
      cases hr
      simp
    · rename_i i off hv
      cases h
      have hr := okX_sound er gr hok hv
      refine ⟨_, rfl, .same sr (v := a.eval x) ?_ hr⟩
      generalize hxv : a.eval x = xv at hr ⊢
      simp only [execOp, ho, hxv]
      cases hr
      simp
    · rename_i f fa fb hv
      split at h
      · rename_i f'
        cases h
        have hr := okX_sound er gr hok hv
        refine ⟨_, rfl, .same sr (v := a.eval x) ?_ hr⟩
        generalize hxv : a.eval x = xv at hr ⊢
        simp only [execOp, ho, hxv]
        cases hr
        simp
      · cases h
    · cases h
  · -- binOp
    rename_i op t x y yt op' ax ay ho
    simp only [Bool.and_eq_true, decide_eq_true_eq] at hok
    obtain ⟨⟨rfl, hx⟩, hy⟩ := hok
    simp only [evalOp] at h
    split at h
    · rename_i v u hv hu
      obtain ⟨r', hr', rfl, rfl⟩ := val_some h
      obtain ⟨z, k1, k2⟩ := binA_sound (P := P) hr' (okX_sound er gr hx hv) (okX_sound er gr hy hu) t x y w
      exact ⟨_, rfl, .same sr (v := z) (by simp only [execOp, ho]; rw [Sem.run_bind, k1]; rfl) k2⟩
    · cases h
  · -- eqb
    rename_i op t x y yt neg d ax ay ho
    rw [Bool.and_eq_true] at hok
    obtain ⟨hok, hg⟩ := hok
    simp only [Bool.and_eq_true] at hok
    obtain ⟨⟨⟨⟨⟨hop, hx⟩, hy⟩, htop⟩, hns⟩, heq⟩ := hok
    simp only [evalOp] at h
    split at h
    · rename_i v u hv hu
      split at h
      · rename_i b hb
        cases h
        have rv := okX_sound er gr hx hv
        have ru := okX_sound er gr hy hu
        have key := (eq_both (P := P) C w eqFuel).1 t d heq v u _ _ b hb rv ru 10000 (by decide)
        have hrun : (do eqGuard op t x y (a.eval x) (a.eval y); binOp op t (a.eval x) (a.eval y) : Sem Value).run P w = .ok (.bool (if neg then !b else b)) w := by
          generalize a.eval x = xv at rv key
          generalize a.eval y = yv at ru key
          exact eqb_run hop htop hns hg hb rv ru key
        exact ⟨_, rfl, .same sr (v := .bool (if neg then !b else b)) (by simp only [execOp, ho]; rw [Sem.run_bind, hrun]; rfl) .bool⟩
      · cases h
    · cases h
  · -- unOp
    rename_i op t x op' ax ho
    simp only [Bool.and_eq_true, decide_eq_true_eq] at hok
    obtain ⟨rfl, hx⟩ := hok
    simp only [evalOp] at h
    split at h
    · rename_i v hv
      obtain ⟨r', hr', rfl, rfl⟩ := val_some h
      have rv := okX_sound er gr hx hv
      generalize hxv : a.eval x = xv at rv
      unfold unA at hr'
      split at hr'
      · cases hr'; cases rv
        exact ⟨_, rfl, .same sr (v := .int _ _) (by simp [execOp, ho, hxv, Op.unary, Op.intArith]) .int⟩
      · cases hr'; cases rv
        exact ⟨_, rfl, .same sr (v := .bool _) (by simp [execOp, ho, hxv, Op.unary]) .bool⟩
      · cases hr'
    · cases h
  · -- cvi
    rename_i s d x k ax ho
    simp only [Bool.and_eq_true] at hok
    obtain ⟨⟨hx, hs⟩, hd⟩ := hok
    obtain ⟨ds, hds⟩ := Option.isSome_iff_exists.1 hs
    simp only [evalOp] at h
    split at h
    · rename_i k0 n hv
      cases h
      have rv := okX_sound er gr hx hv
      generalize hxv : a.eval x = xv at rv
      cases rv
      split at hd
      · rename_i k' hd'
        obtain rfl := of_decide_eq_true hd
        refine ⟨_, rfl, .same sr (v := .int k (k.wrap n)) ?_ .int⟩
        simp only [execOp, ho, hxv, convert, Sem.run_bind, run_underlying hds, run_underlying hd', Result.andThen_ok]
        cases ds <;> simp [Conv.intToInt]
      · cases hd
    · cases h
  · -- cvid
    rename_i s d x ax ho
    simp only [Bool.and_eq_true] at hok
    obtain ⟨⟨hx, hs⟩, hd⟩ := hok
    obtain ⟨ds, hds⟩ := Option.isSome_iff_exists.1 hs
    simp only [evalOp] at h
    split at h
    · rename_i n hv
      cases h
      have rv := okX_sound er gr hx hv
      generalize hxv : a.eval x = xv at rv
      cases rv
      split at hd
      · rename_i hd'
        refine ⟨_, rfl, .same sr (v := .string ⟨n.toArray⟩) ?_ .str⟩
        simp only [execOp, ho, hxv, convert, Sem.run_bind, run_underlying hds, run_underlying hd', Result.andThen_ok]
        cases ds <;> simp
      · cases hd
    · cases h
  · -- cvrune
    rename_i s d x ax ho
    simp only [Bool.and_eq_true] at hok
    obtain ⟨⟨hx, hs⟩, hd⟩ := hok
    obtain ⟨ds, hds⟩ := Option.isSome_iff_exists.1 hs
    simp only [evalOp] at h
    split at h
    · rename_i k0 n hv
      cases h
      have rv := okX_sound er gr hx hv
      generalize hxv : a.eval x = xv at rv
      cases rv
      split at hd
      · rename_i hd'
        refine ⟨_, rfl, .same sr (v := .string ⟨(Utf8.encode n).data.toList.toArray⟩) ?_ .str⟩
        have e : ByteArray.mk (Utf8.encode n).data.toList.toArray = Utf8.encode n := by apply ByteArray.ext; simp
        rw [e]
        simp only [execOp, ho, hxv, convert, Sem.run_bind, run_underlying hds, run_underlying hd', Result.andThen_ok]
        cases ds <;> simp [Conv.intToString]
      · cases hd
    · cases h
  · -- cvb2s
    rename_i s d x ax ho
    simp only [Bool.and_eq_true] at hok
    obtain ⟨⟨hx, hd⟩, hs⟩ := hok
    have hd' : P.underlying d = some .string := by
      split at hd
      · assumption
      · cases hd
    obtain ⟨e, hs', he⟩ : ∃ e, P.underlying s = some (.slice e) ∧ P.underlying e = some (.int .u8) := by
      split at hs
      · rename_i e hs'
        refine ⟨e, hs', ?_⟩
        split at hs
        · assumption
        · cases hs
      · cases hs
    simp only [evalOp] at h
    split at h
    · rename_i v hv
      obtain ⟨r', hr', rfl, rfl⟩ := val_some h
      have rv := okX_sound er gr hx hv
      obtain ⟨base, len, c, u, hxv, k1, k2⟩ := b2s_sound (P := P) sr rv hr'
      refine ⟨_, rfl, .same sr (v := u) ?_ k2⟩
      rw [hxv] at k1
      simp only [execOp, ho, hxv, convert, Sem.run_bind, run_underlying hs', run_underlying hd', run_underlying he, Result.andThen_ok, k1, Sem.run_pure]
    · cases h
  · -- cvs2b
    rename_i s d x elem ax ho
    simp only [Bool.and_eq_true] at hok
    obtain ⟨⟨hx, hs⟩, hd⟩ := hok
    obtain ⟨ds, hds⟩ := Option.isSome_iff_exists.1 hs
    obtain ⟨hd', he⟩ : P.underlying d = some (.slice elem) ∧ P.underlying elem = some (.int .u8) := by
      split at hd
      · rename_i e hd'
        simp only [Bool.and_eq_true, beq_iff_eq] at hd
        obtain ⟨rfl, h2⟩ := hd
        refine ⟨hd', ?_⟩
        split at h2
        · assumption
        · cases h2
      · cases hd
    simp only [evalOp] at h
    split at h
    · rename_i str hv
      split at h
      · rename_i hlen
        cases h
        have rv := okX_sound er gr hx hv
        generalize hxv : a.eval x = xv at rv
        cases rv
        have hsz : (ByteArray.mk str.toArray).size = str.length := by simp [ByteArray.size]
        generalize hcap : (Question.appendCap str.length 0 elem).cut (w.tape w.drawn (Question.appendCap str.length 0 elem)) = cap
        have hge : str.length ≤ cap := by rw [← hcap]; simp [Question.cut]
        let cells : Array Value := (ByteArray.mk str.toArray).data.map (fun b => Value.int .u8 b.toNat) ++ Array.replicate (cap - str.length) (Value.int .u8 0)
        have hcs : cells.size = cap := by simp [cells]; omega
        have htake : cells.toList.take str.length = str.map fun b => Value.int .u8 b.toNat := by
          simp [cells]
        obtain ⟨C', l, sr', hb, _⟩ := (sr.drew).newBox (cs := str.map fun b => AV.int .u8 b.toNat) (c := cells) (e := none) (e0 := elem) (fr := (cap, cap + 1)) (by simp)
          (by
            rw [List.length_map, htake]
            refine ⟨by simp, fun j x v hx hv => ?_⟩
            simp at hx hv
            obtain ⟨b, hb, rfl⟩ := hx
            obtain ⟨b', hb', rfl⟩ := hv
            rw [hb] at hb'; cases hb'
            exact .int) (by simp [hcs]; exact hge) (fun o h1 h2 => by simp at h1 h2; omega)
        refine ⟨_, rfl, C', _, .slice (some ⟨w.heap.size, 0, none⟩) str.length cap, .inl ?_, l, sr', ((Below.refl B w).drew).alloc (by simpa using sr.hB) _, .bs hb (.inr rfl) hge⟩
        simp only [execOp, ho, hxv, convert, Sem.run_bind, run_underlying hds, run_underlying hd', run_underlying he, Result.andThen_ok]
        have hconv : (Conv.stringToBytes elem ⟨str.toArray⟩).run P w = .ok (.slice (some ⟨w.heap.size, 0, none⟩) str.length cap) (w.drew.alloc (.cells cells elem (cap, cap + 1))) := by
          simp only [Conv.stringToBytes, Sem.run_bind, run_choose, Question.forced, hsz, Bool.false_eq_true, if_false, Result.andThen_ok, newRow, run_newObj, Sem.run_pure, markStringish]
          rw [hcap]
          have e4 : (w.drew.alloc (.cells cells elem)).shape? w.drew.heap.size = some (elem, cap) := by
            unfold World.shape?
            rw [heap_alloc_new]
            simp only [hcs]
          have e5 : (shape w.heap.size).run P (w.drew.alloc (.cells cells elem)) = .ok (some (elem, cap)) (w.drew.alloc (.cells cells elem)) := by rw [run_shape]; rw [show w.heap.size = w.drew.heap.size from rfl, e4]
          have e6 := freeze_new w.drew cells elem cap
          show (((shape w.heap.size).run P (w.drew.alloc (.cells cells elem))).andThen _).andThen _ = _
          rw [e5]
          simp only [Result.andThen_ok, run_freeze]
          rw [show w.heap.size = w.drew.heap.size from rfl, e6]
        cases ds <;> simp [hconv]
      · cases h
    · cases h
  · -- cvi2f
    rename_i s d x k ax ho
    simp only [Bool.and_eq_true] at hok
    obtain ⟨⟨hx, hs⟩, hd⟩ := hok
    obtain ⟨ds, hds⟩ := Option.isSome_iff_exists.1 hs
    simp only [evalOp] at h
    split at h
    · rename_i k0 n hv
      cases h
      have rv := okX_sound er gr hx hv
      generalize hxv : a.eval x = xv at rv
      cases rv
      split at hd
      · rename_i k' hd'
        obtain rfl := of_decide_eq_true hd
        refine ⟨_, rfl, .same sr (v := .float k (k.nearest n)) ?_ .flt⟩
        simp only [execOp, ho, hxv, convert, Sem.run_bind, run_underlying hds, run_underlying hd', Result.andThen_ok]
        cases ds <;> simp [Conv.intToFloat]
      · cases hd
    · cases h
  · -- cvf2i
    rename_i s d x k ax ho
    simp only [Bool.and_eq_true] at hok
    obtain ⟨⟨hx, hs⟩, hd⟩ := hok
    obtain ⟨ds, hds⟩ := Option.isSome_iff_exists.1 hs
    simp only [evalOp] at h
    split at h
    · rename_i k0 b hv
      split at h
      · rename_i n hn
        split at h
        · rename_i hr
          cases h
          have rv := okX_sound er gr hx hv
          generalize hxv : a.eval x = xv at rv
          cases rv
          split at hd
          · rename_i k' hd'
            obtain rfl := of_decide_eq_true hd
            refine ⟨_, rfl, .same sr (v := .int k n) ?_ .int⟩
            simp only [execOp, ho, hxv, convert, Sem.run_bind, run_underlying hds, run_underlying hd', Result.andThen_ok]
            cases ds <;> simp [Conv.floatToInt, hn, hr.1, hr.2]
          · cases hd
        · cases h
      · cases h
    · cases h
  · -- makeInterface
    rename_i t x t' ax ho
    simp only [Bool.and_eq_true, beq_iff_eq] at hok
    obtain ⟨⟨rfl, hx⟩, ht⟩ := hok
    obtain ⟨v, hv, rfl, rfl⟩ := val_some h
    simp only [Option.map_eq_some_iff] at hv
    obtain ⟨av, hav, rfl⟩ := hv
    have rv := okX_sound er gr hx hav
    refine ⟨_, rfl, .same sr (v := .iface t (a.eval x)) ?_ (.iface rv)⟩
    simp only [execOp, ho, Instr.makeInterface]
    split at ht
    · cases ht
    · rename_i d hni hd
      simp only [Sem.run_bind, run_underlying hd, Result.andThen_ok]
      cases d <;> first | rfl | (exact absurd rfl (hni _))
    · cases ht
  · -- makeFunc
    rename_i f xs ys f' asl bs ho
    simp only [Bool.and_eq_true, decide_eq_true_eq] at hok
    obtain ⟨⟨rfl, hxs⟩, hys⟩ := hok
    simp only [evalOp] at h
    split at h
    · rename_i av bv ha hb
      cases h
      have ra := okXs_sound er gr hxs ha
      have rb := okXs_sound er gr hys hb
      have hv : VR C (.fn f av bv) (.func f ((xs.toList.map a.eval).toArray) ((ys.toList.map a.eval).toArray)) := .fn ra.len rb.len ra.at_ rb.at_
      refine ⟨_, rfl, .same sr (v := .func f (xs.map a.eval) (ys.map a.eval)) (by simp [execOp, ho, Instr.makeFunc]) ?_⟩
      rw [show xs.map a.eval = (xs.toList.map a.eval).toArray from by apply Array.ext'; simp, show ys.map a.eval = (ys.toList.map a.eval).toArray from by apply Array.ext'; simp]
      exact hv
    · cases h
  · -- slice of a string
    rename_i t x lo hi mx ax l hh ho
    simp only [Bool.and_eq_true, Option.isNone_iff_eq_none] at hok
    obtain ⟨⟨⟨⟨ht, hx⟩, hlo⟩, hhi⟩, rfl⟩ := hok
    have ht' : P.underlying t = some .string := by
      split at ht
      · assumption
      · cases ht
    simp only [evalOp] at h
    split at h
    · rename_i str lov hiv hv hl hhv
      split at h
      · rename_i l1 h1 hb
        cases h
        have rv := okX_sound er gr hx hv
        generalize hxv : a.eval x = xv at rv
        cases rv
        have hsz : (ByteArray.mk str.toArray).size = str.length := by simp [ByteArray.size]
        obtain ⟨k1, k2, k3⟩ := bounds_nomax (P := P) (isSlice := false) (okXo_opt er gr hlo hl) (okXo_opt er gr hhi hhv) w (Nat.le_refl _) hb
        have hext : (ByteArray.mk str.toArray).extract l1 h1 = ByteArray.mk ((str.take h1).drop l1).toArray := by
          apply ByteArray.ext
          simp [List.extract_eq_take_drop, List.drop_take]
        refine ⟨_, rfl, .same sr (v := .string ⟨((str.take h1).drop l1).toArray⟩) ?_ .str⟩
        simp only [execOp, ho, hxv, Instr.sliceAt, Instr.slice, Sem.run_bind, run_underlying ht', Result.andThen_ok, Option.map_none, Option.isSome_none, Bool.false_eq_true, if_false, hsz, k1, Sem.run_pure, hext]
      · cases h
    · cases h
  · -- slice of a slice
    rename_i t x lo hi mx sz ax l hh m ho
    simp only [Bool.and_eq_true, Bool.or_eq_true] at hok
    obtain ⟨⟨⟨⟨⟨ht, hx⟩, hlo⟩, hhi⟩, hmx⟩, hmh⟩ := hok
    obtain ⟨e, ht', hs⟩ : ∃ e, P.underlying t = some (.slice e) ∧ sizeIs P e sz = true := by
      split at ht
      · rename_i e he; exact ⟨e, he, ht⟩
      · cases ht
    simp only [evalOp] at h
    split at h
    · rename_i av lov hiv mxv hv hl hhv hm
      obtain ⟨r', hr', rfl, rfl⟩ := val_some h
      have rv := okX_sound er gr hx hv
      obtain ⟨u, k1, k2⟩ := sliceA_sound (P := P) hr' rv (okXo_opt er gr hlo hl) (okXo_opt er gr hhi hhv) (okXo_opt er gr hmx hm) (fun hn => by
        intro h0
        rcases hmh with hmh | hmh
        · cases mx with
          | none => exact hn rfl
          | some _ => simp at hmh
        · cases hi with
          | none => simp at hmh
          | some _ => simp at h0) ht' hs w
      exact ⟨_, rfl, .same sr (v := u) (by simp only [execOp, ho]; rw [Sem.run_bind, k1]; rfl) k2⟩
    · cases h
  · -- slice of an array
    rename_i t x lo hi mx len sz ax l hh m ho
    simp only [Bool.and_eq_true] at hok
    obtain ⟨⟨⟨⟨ht, hx⟩, hlo⟩, hhi⟩, hmx⟩ := hok
    obtain ⟨e, ht', hs⟩ : ∃ e, P.underlying t = some (.array len e) ∧ sizeIs P e sz = true := by
      split at ht
      · rename_i n e he
        simp only [Bool.and_eq_true, beq_iff_eq] at ht
        obtain ⟨rfl, h2⟩ := ht
        exact ⟨e, he, h2⟩
      · cases ht
    simp only [evalOp] at h
    split at h
    · rename_i id off lov hiv hv hl hhv
      split at h
      · rename_i l1 h1 hb
        cases h
        have rv := okX_sound er gr hx hv
        generalize hxv : a.eval x = xv at rv
        cases rv with
        | bp hbx =>
        rename_i b
        have hmn : mx = none := by cases mx with
          | none => rfl
          | some _ => simp [okXo] at hmx
        subst hmn
        obtain ⟨k1, k2, k3⟩ := bounds_nomax (P := P) (isSlice := false) (okXo_opt er gr hlo hl) (okXo_opt er gr hhi hhv) w (Nat.le_refl _) hb
        refine ⟨_, rfl, .same sr (v := .slice (some (if len = l1 then (⟨b, off, none⟩ : Addr) else (⟨b, off, none⟩ : Addr).add (l1 * sz))) (h1 - l1) (len - l1)) ?_ ?_⟩
        · simp only [execOp, ho, hxv, Instr.sliceAt, Instr.sureAddr, Sem.run_bind, run_underlying ht', Result.andThen_ok, Option.map_none, Sem.run_pure, k1, run_sizeOf hs]
        · by_cases e1 : len = l1
          · rw [if_pos e1]; exact .bs hbx (.inl (by omega)) (by omega)
          · rw [if_neg e1, add_plain]; exact .bs hbx (.inr rfl) (by omega)
      · cases h
    · cases h
  · -- fieldAddr
    rename_i t x f off ax ho
    simp only [Bool.and_eq_true] at hok
    obtain ⟨hx, ht⟩ := hok
    obtain ⟨fs, fl, i, ht', hf, hoff, hi, hsz⟩ : ∃ fs fl i, P.underlying t = some (.struct fs) ∧ fs[f]? = some fl ∧ fl.offset = off ∧ P.info? fl.type = some i ∧ i.size ≠ 0 := by
      split at ht
      · rename_i fs he
        split at ht
        · rename_i fl hfl
          simp only [Bool.and_eq_true, beq_iff_eq] at ht
          obtain ⟨h1, h2⟩ := ht
          split at h2
          · rename_i i hi
            exact ⟨fs, fl, i, he, hfl, h1, hi, by simpa using h2⟩
          · cases h2
        · cases ht
      · cases ht
    subst hoff
    have hplace : ∀ (b o : Nat) (w : World), (fieldPlace ⟨b, o, none⟩ fl).run P w = .ok ⟨b, o + fl.offset, none⟩ w := by
      intro b o w
      simp only [fieldPlace, Sem.run_bind, sizeOf, run_typeInfo hi, Result.andThen_ok, Sem.run_pure]
      rw [if_neg hsz, add_plain]
      rfl
    simp only [evalOp] at h
    split at h
    · rename_i s r' i off hv
      cases h
      have hr := okX_sound er gr hx hv
      generalize hxv : a.eval x = xv at hr
      cases hr with
      | ip h1 h2 h3 h4 =>
      rename_i b o vs
      refine ⟨_, rfl, .same sr (v := .pointer (some ⟨b, o + i * s + off + fl.offset, none⟩)) ?_ ?_⟩
      · simp only [execOp, ho, hxv, Instr.fieldAt, Instr.sureAddr, Sem.run_bind, run_underlying ht', Result.andThen_ok, hf, Sem.run_pure, hplace]
      · have := VR.ip (C := C) (i := i) (off := off + fl.offset) h1 h2 h3 h4
        rwa [← Nat.add_assoc] at this
    · rename_i i off hv
      cases h
      have hr := okX_sound er gr hx hv
      generalize hxv : a.eval x = xv at hr
      cases hr with
      | bp hb =>
      rename_i b
      refine ⟨_, rfl, .same sr (v := .pointer (some ⟨b, off + fl.offset, none⟩)) ?_ (.bp hb)⟩
      simp only [execOp, ho, hxv, Instr.fieldAt, Instr.sureAddr, Sem.run_bind, run_underlying ht', Result.andThen_ok, hf, Sem.run_pure, hplace]
    · cases h
  · -- field
    rename_i t x f off n ax ho
    simp only [Bool.and_eq_true] at hok
    obtain ⟨hx, ht⟩ := hok
    obtain ⟨fs, fl, ht', hf, hoff, hrd⟩ : ∃ fs fl, P.underlying t = some (.struct fs) ∧ fs[f]? = some fl ∧ fl.offset = off ∧ readIs P fl.type n = true := by
      split at ht
      · rename_i fs he
        split at ht
        · rename_i fl hfl
          simp only [Bool.and_eq_true, beq_iff_eq] at ht
          exact ⟨fs, fl, he, hfl, ht.1, ht.2⟩
        · cases ht
      · cases ht
    subst hoff
    simp only [evalOp] at h
    split at h
    · rename_i cs hv
      obtain ⟨r', hr', rfl, rfl⟩ := val_some h
      have hr := okX_sound er gr hx hv
      obtain ⟨vs, hxv, rvs⟩ := hr.agg_inv
      obtain ⟨u, k1, k2⟩ := partOf_sound (P := P) rvs hr' hrd w
      refine ⟨_, rfl, .same sr (v := u) ?_ k2⟩
      simp only [execOp, ho, hxv, Instr.field, Sem.run_bind, run_underlying ht', Result.andThen_ok, hf, asAgg, Sem.run_pure, k1]
    · cases h
  · -- indexAddr of a slice
    rename_i t x i sz ax ai ho
    simp only [Bool.and_eq_true] at hok
    obtain ⟨⟨hx, hi⟩, ht⟩ := hok
    obtain ⟨e, ht', hs⟩ : ∃ e, P.underlying t = some (.slice e) ∧ sizeIs P e sz = true := by
      split at ht
      · rename_i e he; exact ⟨e, he, ht⟩
      · cases ht
    simp only [evalOp] at h
    split at h
    · rename_i sz' row cap k n hv hn
      split at h
      · rename_i hcond
        cases h
        obtain ⟨rfl, h0, h1⟩ := hcond
        have rv := okX_sound er gr hx hv
        have rn := okX_sound er gr hi hn
        generalize hxv : a.eval x = xv at rv
        generalize hnv : a.eval i = nv at rn
        cases rn
        cases rv with
        | sl0 => simp at h1; omega
        | sl hsz hl him hvv hc =>
        rename_i b o c vs
        refine ⟨_, rfl, .same sr (v := .pointer (some ⟨b, o + n.toNat * sz', none⟩)) ?_ ?_⟩
        · simp only [execOp, ho, hxv, hnv, Instr.indexAt, Sem.run_bind, run_underlying ht', Result.andThen_ok, asIntOf, Sem.run_pure]
          rw [if_pos ⟨h0, h1⟩]
          simp only [Sem.run_bind, run_sizeOf hs, Result.andThen_ok, add_plain, Sem.run_pure]
        · exact VR.ip (C := C) (i := n.toNat) (off := 0) hsz hl him hvv
      · cases h
    · rename_i sz' id off len k n hv hn
      split at h
      · rename_i hcond
        cases h
        obtain ⟨rfl, h0, h1⟩ := hcond
        have rv := okX_sound er gr hx hv
        have rn := okX_sound er gr hi hn
        generalize hxv : a.eval x = xv at rv
        generalize hnv : a.eval i = nv at rn
        cases rn
        cases rv with
        | bs hb ho' hc =>
        rename_i b off' c
        have : off' = off := by omega
        subst this
        refine ⟨_, rfl, .same sr (v := .pointer (some ⟨b, off' + n.toNat * sz', none⟩)) ?_ (.bp hb)⟩
        simp only [execOp, ho, hxv, hnv, Instr.indexAt, Sem.run_bind, run_underlying ht', Result.andThen_ok, asIntOf, Sem.run_pure]
        rw [if_pos ⟨h0, h1⟩]
        simp only [Sem.run_bind, run_sizeOf hs, Result.andThen_ok, add_plain, Sem.run_pure]
      · cases h
    · cases h
  · -- indexAddr of an array
    rename_i t x i len sz ax ai ho
    simp only [Bool.and_eq_true] at hok
    obtain ⟨⟨hx, hi⟩, ht⟩ := hok
    obtain ⟨e, ht', hs⟩ : ∃ e, P.underlying t = some (.array len e) ∧ sizeIs P e sz = true := by
      split at ht
      · rename_i n e he
        simp only [Bool.and_eq_true, beq_iff_eq] at ht
        obtain ⟨rfl, h2⟩ := ht
        exact ⟨e, he, h2⟩
      · cases ht
    simp only [evalOp] at h
    split at h
    · rename_i s r' j off k n hv hn
      split at h
      · rename_i hcond
        cases h
        obtain ⟨h0, h1⟩ := hcond
        have rv := okX_sound er gr hx hv
        have rn := okX_sound er gr hi hn
        generalize hxv : a.eval x = xv at rv
        generalize hnv : a.eval i = nv at rn
        cases rn
        cases rv with
        | ip q1 q2 q3 q4 =>
        rename_i b o vs
        refine ⟨_, rfl, .same sr (v := .pointer (some ⟨b, o + j * s + off + n.toNat * sz, none⟩)) ?_ ?_⟩
        · simp only [execOp, ho, hxv, hnv, Instr.indexAt, Instr.sureAddr, Sem.run_bind, run_underlying ht', Result.andThen_ok, asIntOf, Sem.run_pure]
          rw [if_pos ⟨h0, h1⟩]
          simp only [Sem.run_bind, run_sizeOf hs, Result.andThen_ok, add_plain, Sem.run_pure]
        · have := VR.ip (C := C) (i := j) (off := off + n.toNat * sz) q1 q2 q3 q4
          rwa [← Nat.add_assoc] at this
      · cases h
    · rename_i id off k n hv hn
      split at h
      · rename_i hcond
        cases h
        obtain ⟨h0, h1⟩ := hcond
        have rv := okX_sound er gr hx hv
        have rn := okX_sound er gr hi hn
        generalize hxv : a.eval x = xv at rv
        generalize hnv : a.eval i = nv at rn
        cases rn
        cases rv with
        | bp hb =>
        rename_i b
        refine ⟨_, rfl, .same sr (v := .pointer (some ⟨b, off + n.toNat * sz, none⟩)) ?_ (.bp hb)⟩
        simp only [execOp, ho, hxv, hnv, Instr.indexAt, Instr.sureAddr, Sem.run_bind, run_underlying ht', Result.andThen_ok, asIntOf, Sem.run_pure]
        rw [if_pos ⟨h0, h1⟩]
        simp only [Sem.run_bind, run_sizeOf hs, Result.andThen_ok, add_plain, Sem.run_pure]
      · cases h
    · cases h
  · -- index of a string
    rename_i t x i ax ai ho
    simp only [Bool.and_eq_true] at hok
    obtain ⟨⟨hx, hi⟩, ht⟩ := hok
    have ht' : P.underlying t = some .string := by
      split at ht
      · assumption
      · cases ht
    simp only [evalOp] at h
    split at h
    · rename_i str k n hv hn
      split at h
      · rename_i h0
        split at h
        · rename_i b hb
          cases h
          have rv := okX_sound er gr hx hv
          have rn := okX_sound er gr hi hn
          generalize hxv : a.eval x = xv at rv
          generalize hnv : a.eval i = nv at rn
          cases rn; cases rv
          have hlt : n.toNat < str.length := (List.getElem?_eq_some_iff.1 hb).1
          have hget : (ByteArray.mk str.toArray)[n.toNat]? = some b := by
            have hlt' : n.toNat < (ByteArray.mk str.toArray).size := by simpa [ByteArray.size] using hlt
            rw [getElem?_pos (ByteArray.mk str.toArray) n.toNat hlt']
            congr 1
            have := (List.getElem?_eq_some_iff.1 hb).2
            rw [← this]
            show (ByteArray.mk str.toArray).data[n.toNat] = _
            simp
          refine ⟨_, rfl, .same sr (v := .int .u8 b.toNat) ?_ .int⟩
          simp only [execOp, ho, hxv, hnv, Instr.index, Sem.run_bind, run_underlying ht', Result.andThen_ok, asIntOf, Sem.run_pure, if_pos h0, hget]
        · cases h
      · cases h
    · cases h
  · -- index of an array
    rename_i t x i len sz n ax ai ho
    simp only [Bool.and_eq_true] at hok
    obtain ⟨⟨hx, hi⟩, ht⟩ := hok
    obtain ⟨e, ht', hs, hrd⟩ : ∃ e, P.underlying t = some (.array len e) ∧ sizeIs P e sz = true ∧ readIs P e n = true := by
      split at ht
      · rename_i m e he
        simp only [Bool.and_eq_true, beq_iff_eq] at ht
        obtain ⟨⟨rfl, h2⟩, h3⟩ := ht
        exact ⟨e, he, h2, h3⟩
      · cases ht
    simp only [evalOp] at h
    split at h
    · rename_i cs k j hv hn
      split at h
      · rename_i hcond
        obtain ⟨r', hr', rfl, rfl⟩ := val_some h
        have hr := okX_sound er gr hx hv
        have rn := okX_sound er gr hi hn
        obtain ⟨vs, hxv, rvs⟩ := hr.agg_inv
        generalize hnv : a.eval i = nv at rn
        cases rn
        obtain ⟨u, k1, k2⟩ := partOf_sound (P := P) (t := e) rvs hr' hrd w
        refine ⟨_, rfl, .same sr (v := u) ?_ k2⟩
        simp only [execOp, ho, hxv, hnv, Instr.index, Sem.run_bind, run_underlying ht', Result.andThen_ok, asIntOf, Sem.run_pure]
        rw [if_pos hcond]
        simp only [Sem.run_bind, run_sizeOf hs, Result.andThen_ok, k1]
      · cases h
    · cases h
  · -- extract
    rename_i x i ax j ho
    simp only [Bool.and_eq_true, beq_iff_eq] at hok
    obtain ⟨hx, rfl⟩ := hok
    simp only [evalOp] at h
    split at h
    · rename_i cs hv
      obtain ⟨r', hr', rfl, rfl⟩ := val_some h
      have hr := okX_sound er gr hx hv
      generalize hxv : a.eval x = xv at hr
      cases hr with
      | tup hl hvs =>
      rename_i vs
      obtain ⟨u, k1, k2⟩ := VRs.get ⟨hl, hvs⟩ hr'
      refine ⟨_, rfl, .same sr (v := u) ?_ k2⟩
      simp only [execOp, ho, hxv, Instr.extract, List.getElem?_toArray, k1, Sem.run_bind, Sem.run_pure, Result.andThen_ok]
    · cases h
  · -- calls and builtins
    rename_i c ho
    exact call_goes sr er gr ho hok hc hp h
  · -- typeAssert
    rename_i x xt t ok t' zero ok' ax ho
    simp only [Bool.and_eq_true, beq_iff_eq] at hok
    obtain ⟨⟨⟨⟨hx, rfl⟩, rfl⟩, hni⟩, hz⟩ := hok
    obtain ⟨d, hd, hdi⟩ : ∃ d, P.underlying t = some d ∧ ∀ ms, d ≠ .interface ms := by
      split at hni
      · cases hni
      · rename_i d h1 h2; exact ⟨d, h2, fun ms e => h1 ms e⟩
      · cases hni
    obtain ⟨i, z, hi, hz0, hzr⟩ : ∃ i z, P.info? t = some i ∧ i.zero = some z ∧ VR C zero z := by
      split at hz
      · rename_i i hi
        split at hz
        · rename_i z hz0; exact ⟨i, z, hi, hz0, okConst_sound hz⟩
        · cases hz
      · cases hz
    simp only [evalOp] at h
    split at h
    · rename_i t1 v hv
      have hr := okX_sound er gr hx hv
      generalize hxv : a.eval x = xv at hr
      cases hr with
      | iface hrv =>
      rename_i u
      split at h
      · rename_i hok'
        cases h
        subst hok'
        by_cases e : t1 = t
        · subst e
          rw [if_pos rfl]
          refine ⟨_, rfl, .same sr (v := .tuple ([u, .bool true] : List Value).toArray) ?_ (.tup rfl (VRs.cons hrv (VRs.cons .bool (VRs.nil C))).at_)⟩
          simp only [execOp, ho, hxv, Instr.typeAssert, Sem.run_bind, run_underlying hd, Result.andThen_ok]
          cases d <;> first | (exact absurd rfl (hdi _)) | simp
        · rw [if_neg e]
          refine ⟨_, rfl, .same sr (v := .tuple ([z, .bool false] : List Value).toArray) ?_ (.tup rfl (VRs.cons hzr (VRs.cons .bool (VRs.nil C))).at_)⟩
          simp only [execOp, ho, hxv, Instr.typeAssert, Sem.run_bind, run_underlying hd, Result.andThen_ok]
          cases d <;> first | (exact absurd rfl (hdi _)) | simp [e, run_zeroValue hi hz0]
      · rename_i hok'
        have hf : ok = false := by cases ok <;> simp_all
        subst hf
        split at h
        · rename_i e
          cases h
          subst e
          refine ⟨_, rfl, .same sr (v := u) ?_ hrv⟩
          simp only [execOp, ho, hxv, Instr.typeAssert, Sem.run_bind, run_underlying hd, Result.andThen_ok]
          cases d <;> first | (exact absurd rfl (hdi _)) | simp
        · cases h
    · rename_i hv
      have hr := okX_sound er gr hx hv
      generalize hxv : a.eval x = xv at hr
      cases hr
      split at h
      · rename_i hok'
        cases h
        subst hok'
        refine ⟨_, rfl, .same sr (v := .tuple ([z, .bool false] : List Value).toArray) ?_ (.tup rfl (VRs.cons hzr (VRs.cons .bool (VRs.nil C))).at_)⟩
        simp only [execOp, ho, hxv, Instr.typeAssert, Sem.run_bind, run_underlying hd, Result.andThen_ok]
        cases d <;> first | (exact absurd rfl (hdi _)) | simp [run_zeroValue hi hz0]
      · cases h
    · cases h
  · -- panic
    simp [AOp.isPanic] at hp
  · cases hok
end
end Go.Pm
end
