/- Den, an evaluator over a compact form of the code of a program: its definitions, and that each of its operations on data is what the model's operation does (conditions: a state that stands to the world). -/
import GoSem.Step
import Derived.Below
import Derived.Laws.Rows
import Derived.ChangeKeysEq
import Derived.Laws.Entries
import Derived.Laws.StructEq
import Derived.Great.BuildSlice
import Derived.Laws.BytesString
set_option linter.unusedVariables false
set_option linter.unusedSimpArgs false
set_option linter.unusedSectionVars false
set_option linter.deprecated false

/- Den: abstract values, a compact intermediate code, and its big-step evaluator: definitions alone. -/
namespace Go.Den
open Go

/-- Abstract values. A box is an object of flat cells; a row is the array behind a slice, element by element. -/
inductive AV where
  | bool (b : Bool)
  | int (k : IntKind) (n : Int)
  | str (s : ByteArray)
  | agg (cs : List AV)
  | tup (vs : List AV)
  | nilp
  | ptr (id off : Nat)                    -- into a box
  | rptr (id ver i off : Nat)             -- into a row's element
  | eptr (cs : List AV) (off : Nat)       -- into memory that is never written again
  | glob (g : Nat)
  | nils
  | sl (els : List (List AV)) (clip : Bool)   -- a slice that is never written again; clip: no room behind it
  | ref (id ver sz off len : Nat) (clip : Bool)   -- a slice of a row whose elements have sz cells; clip: no room behind it
  | aref (id sz off len : Nat)            -- a slice of an array in a box
  | nilm
  | mp (id : Nat)
  | mglob (g : Nat)           -- the map that a listed variable holds
  | fn (f : Fn) (first cap : List AV)
  | nilf
  | ifc (t : TypeId) (v : AV)
  | nili
  | junk
  deriving Inhabited

abbrev AV.undef : AV := .tup []

def AV.cells : AV → List AV
  | .agg cs => cs
  | v => [v]

/-- Something that no cell holds. -/
def AV.isTup : AV → Bool
  | .tup _ => true
  | .junk => true
  | _ => false

def AV.ofScalar : Value → AV
  | .bool b => .bool b
  | .int k n => .int k n
  | .string s => .str s
  | .pointer none => .nilp
  | .slice none n c => if n = 0 ∧ c = 0 then .nils else .junk
  | .map none => .nilm
  | .nilFunc => .nilf
  | .nilIface => .nili
  | .tuple vs => if vs.size = 0 then .tup [] else .junk
  | _ => .junk

def AV.ofValue : Value → AV
  | .agg cs => .agg (cs.toList.map AV.ofScalar)
  | .iface t v => .ifc t (AV.ofScalar v)
  | v => AV.ofScalar v

mutual
/-- One more than the greatest number of an object that a value refers to. -/
def AV.refs : AV → Nat
  | .ptr id _ => id + 1
  | .rptr id _ _ _ => id + 1
  | .ref id _ _ _ _ _ => id + 1
  | .aref id _ _ _ => id + 1
  | .mp id => id + 1
  | .agg cs => refsL cs
  | .tup cs => refsL cs
  | .eptr cs _ => refsL cs
  | .sl els _ => refsLL els
  | .fn f a b => max (match f with | .yield l => l + 1 | _ => 0) (max (refsL a) (refsL b))
  | .ifc _ v => v.refs
  | _ => 0
def refsL : List AV → Nat
  | [] => 0
  | a :: as => max a.refs (refsL as)
def refsLL : List (List AV) → Nat
  | [] => 0
  | a :: as => max (refsL a) (refsLL as)
end

abbrev Env := Nat → AV

def Env.set (e : Env) (d : Nat) (v : AV) : Env := fun t => if t = d then v else e t

inductive Opd where
  | t (i : Nat)
  | c (v : AV)
  deriving Inhabited

def Opd.get (e : Env) : Opd → AV
  | .t i => e i
  | .c v => v

/-- What kind of values is compared, or asked for its length. -/
inductive EK where
  | bool
  | int
  | str
  | ptr
  | sl
  | map
  | cap                           -- how much room a slice has
  | fn
  | ifc
  | ife (ts : List TypeId)         -- two interfaces; of types of these numbers there are integers
  | agg (ks : List EK)
  deriving Inhabited

/-- Instructions: the model's operations with their types looked up. -/
inductive I where
  | mov (x : Opd)
  | pick (c a b : Opd)
  | alloc (z : List AV) (tg : Option TypeId)
  | box (x : Opd) (tg : Option TypeId := none)
  | build (z : List AV) (parts : List (Nat × Nat × Opd))                -- offset, size, value
  | bslice (z : List AV) (len : Nat) (parts : List (Nat × Nat × Opd))   -- an element's zero; offsets from the row's head
  | brow (ty : TypeId) (z : List AV) (len : Nat) (parts : List (Nat × Nat × Opd))     -- the same, a row that may be written
  | load (agg : Bool) (n : Nat) (a : Opd)
  | store (n : Nat) (a v : Opd)
  | nilck (x : Opd)
  | bin (op : BinOp) (x y : Opd)
  | shf (op : BinOp) (x y : Opd)
  | eq (k : EK) (x y : Opd)
  | ne (k : EK) (x y : Opd)
  | un (op : UnOp) (x : Opd)
  | conv (k : IntKind) (x : Opd)
  | convs (x : Opd)               -- a string to a string
  | s2b (x : Opd)
  | b2s (x : Opd)
  | mki (t : TypeId) (x : Opd)
  | mkf (f : Fn) (first cap : List Opd)
  | mkmap
  | mkslice (ty : TypeId) (z : List AV) (bytes : Nat) (l c : Opd)
  | slstr (x : Opd) (lo hi : Option Opd)
  | slsl (sz : Nat) (x : Opd) (lo hi mx : Option Opd)
  | slarr (n sz : Nat) (x : Opd) (lo hi : Option Opd)
  | faddr (off : Nat) (x : Opd)
  | fld (agg : Bool) (n off : Nat) (x : Opd)
  | iaddra (len sz : Nat) (x i : Opd)
  | iaddrs (sz : Nat) (x i : Opd)
  | idxa (agg : Bool) (len sz : Nat) (x i : Opd)
  | idxs (x i : Opd)
  | lookup (kk : EK) (z : AV) (m k : Opd) (ok : Bool)
  | mput (kk : EK) (m k v : Opd)
  | tai (x : Opd) (ok : Bool) (yes : List TypeId)        -- to an interface type: the types that have its methods
  | ta (z : AV) (x : Opd) (t : TypeId) (ok : Bool)
  | ext (x : Opd) (i : Nat)
  | len (k : EK) (x : Opd)
  | lenarr (n : Nat)
  | append (ty : TypeId) (sz bytes : Nat) (s x : Opd)
  | appends (ty : TypeId) (s x : Opd)          -- bytes of a string
  | copy (sz : Nat) (d s : Opd)
  | clear (z : List AV) (x : Opd)
  | max (xs : List Opd)
  | min (xs : List Opd)
  | usd (x : Opd)
  | ustr (ty : TypeId) (p n : Opd)
  | rng (x : Opd)                -- an iterator over a string
  | nxt (x : Opd)
  | call (f : Opd) (args : List Opd)
  | panic (x : Opd)
  deriving Inhabited

structure Ins where
  g : Option (Nat × Bool)        -- carried out only where that temporary holds this bool
  dst : Option Nat
  i : I
  deriving Inhabited

/-- The compact code. -/
inductive PC where
  | skip
  | reg (ops : List Ins)
  | dreg (ops : List (Ins × List Nat))     -- Go leaves the order open; with each: which ones ahead of it are not tied to it
  | seq (a b : PC)
  | cond (c : Opd) (a b : PC)
  | block (id : Nat) (b : PC)
  | loop (b : PC)
  | rfun (g : Opd) (params : List Nat) (assign body : PC)
  | exit (id : Nat)
  | ret
  deriving Inhabited

inductive RV where
  | t (i : Nat)
  | cell (a : Nat) (agg : Bool) (n : Nat)
  deriving Inhabited

structure PF where
  ntmps : Nat
  results : List RV
  body : PC
  deriving Inhabited

/-- Abstract objects. -/
inductive AObj where
  | box (cs : List AV) (tg : Option TypeId)
  | row (ver sz : Nat) (ty : TypeId) (els : List (List AV))
  | map (es : List (AV × AV))
  | loop (state : LoopState) (pending : Option PC) (fn : FuncId) (env : Env) (params : List Nat) (assign body : PC)
  | siter (s : ByteArray) (pos : Nat)
  | dfr
  | dead
  deriving Inhabited

structure AS where
  heap : List AObj
  lo : Option Nat
  deriving Inhabited

inductive CRes where
  | ret (v : AV) (σ : AS)
  | panic (v : AV) (σ : AS)
  deriving Inhabited

abbrev Caller := AV → List AV → AS → Option CRes

/-- What listed variables hold; the functions' code; primitives. -/
structure Ctx where
  glob : Nat → Option (List AV)
  code : FuncId → Option PF
  prim : FuncId → Option (List AV → AS → Option CRes)
  gmap : Nat → Option (List (AV × AV)) := fun _ => none

def AS.push (σ : AS) (o : AObj) : AS := { σ with heap := σ.heap ++ [o] }

def minLo (a : Option Nat) (i : Nat) : Option Nat := match a with | none => some i | some j => some (Nat.min i j)

def joinLo (a b : Option Nat) : Option Nat := match b with | none => a | some j => minLo a j

/-- An object is turned; something younger may have been stored into it. -/
def AS.set (σ : AS) (id : Nat) (o : AObj) (refs : Nat) : AS :=
  { heap := σ.heap.set id o, lo := if refs ≤ id + 1 then σ.lo else minLo σ.lo id }

def part (agg : Bool) (n : Nat) (cs : List AV) (off : Nat) : Option AV :=
  if agg then (if off + n ≤ cs.length then some (.agg ((cs.drop off).take n)) else none) else cs[off]?

def splice (cs : List AV) (off : Nat) (vs : List AV) : List AV := cs.take off ++ (vs ++ cs.drop (off + vs.length))

def fillA (cs : List AV) : List (Nat × Nat × AV) → Option (List AV)
  | [] => some cs
  | (off, n, v) :: rest => if v.isTup = false ∧ v.cells.length = n ∧ off + n ≤ cs.length then fillA (splice cs off v.cells) rest else none

/-- Flat cells, cut into elements. -/
def chunks (sz : Nat) : Nat → List AV → List (List AV)
  | 0, _ => []
  | k + 1, cs => cs.take sz :: chunks sz k (cs.drop sz)

def AV.isPtr : AV → Bool
  | .ptr .. | .rptr .. | .eptr .. | .glob _ => true
  | _ => false

def AV.isSl : AV → Bool
  | .sl .. | .ref .. | .aref .. => true
  | _ => false

def eqP : EK → AV → AV → Option Bool
  | .bool, .bool a, .bool b => some (a == b)
  | .int, .int k a, .int k' b => if k = k' then some (a == b) else none
  | .str, .str a, .str b => some (a.toList == b.toList)
  | .ptr, .nilp, .nilp => some true
  | .ptr, .nilp, b => if b.isPtr then some false else none
  | .ptr, a, .nilp => if a.isPtr then some false else none
  | .sl, .nils, .nils => some true
  | .sl, .nils, b => if b.isSl then some false else none
  | .sl, a, .nils => if a.isSl then some false else none
  | .map, .nilm, .nilm => some true
  | .map, .nilm, .mp _ => some false
  | .map, .mp _, .nilm => some false
  | .fn, .nilf, .nilf => some true
  | .fn, .nilf, .fn .. => some false
  | .fn, .fn .., .nilf => some false
  | .ifc, .nili, .nili => some true
  | .ifc, .nili, .ifc .. => some false
  | .ifc, .ifc .., .nili => some false
  | .ife ts, .ifc t (.int k a), .ifc t' (.int k' b) => if t = t' then (if ts.contains t ∧ k = k' then some (a == b) else none) else some false
  | _, _, _ => none

def eqAL : List EK → List AV → List AV → Option Bool
  | [], [], [] => some true
  | k :: ks, a :: as, b :: bs => match eqP k a b with
    | some true => eqAL ks as bs
    | some false => some false
    | none => none
  | _, _, _ => none

def eqA : EK → AV → AV → Option Bool
  | .agg ks, .agg xs, .agg ys => if xs.length = ks.length ∧ ys.length = ks.length then eqAL ks xs ys else none
  | .agg _, _, _ => none
  | k, x, y => eqP k x y

def bitsA (op : BinOp) (k : IntKind) (x y : Int) : Option AV :=
  match op with
  | .and => some (.int k (k.wrap (BitVec.ofInt k.bits x &&& BitVec.ofInt k.bits y).toNat))
  | .or => some (.int k (k.wrap (BitVec.ofInt k.bits x ||| BitVec.ofInt k.bits y).toNat))
  | .xor => some (.int k (k.wrap (BitVec.ofInt k.bits x ^^^ BitVec.ofInt k.bits y).toNat))
  | .andNot => some (.int k (k.wrap (BitVec.ofInt k.bits x &&& ~~~ (BitVec.ofInt k.bits y)).toNat))
  | _ => none

def intA (op : BinOp) (k : IntKind) (x y : Int) : Option AV :=
  match op with
  | .add => some (.int k (k.wrap (x + y)))
  | .sub => some (.int k (k.wrap (x - y)))
  | .mul => some (.int k (k.wrap (x * y)))
  | .quo => if y = 0 then none else some (.int k (k.wrap (x.tdiv y)))
  | .rem => if y = 0 then none else some (.int k (x.tmod y))
  | .eql => some (.bool (x == y))
  | .neq => some (.bool (x != y))
  | .lss => some (.bool (x < y))
  | .leq => some (.bool (x ≤ y))
  | .gtr => some (.bool (x > y))
  | .geq => some (.bool (x ≥ y))
  | op => bitsA op k x y

def shiftA (op : BinOp) (k : IntKind) (x y : Int) : Option AV :=
  if y < 0 then none else
  match op with
  | .shl => some (.int k (k.wrap (x * 2 ^ (min y.toNat k.bits))))
  | .shr => some (.int k (x.fdiv (2 ^ (min y.toNat k.bits))))
  | _ => none

def strRoom : Nat := 1152921504606846976

def strA (op : BinOp) (x y : ByteArray) : Option AV :=
  match op with
  | .add => if x.size + y.size ≤ strRoom then some (.str (x ++ y)) else none
  | .eql => some (.bool (x.toList == y.toList))
  | .neq => some (.bool !(x.toList == y.toList))
  | .lss => some (.bool (Op.bytesLess x.toList y.toList))
  | .leq => some (.bool (Op.bytesLess x.toList y.toList || x.toList == y.toList))
  | .gtr => some (.bool !(Op.bytesLess x.toList y.toList || x.toList == y.toList))
  | .geq => some (.bool !(Op.bytesLess x.toList y.toList))
  | _ => none

def binA (op : BinOp) : AV → AV → Option AV
  | .int k a, .int k' b => if k = k' then intA op k a b else none
  | .str a, .str b => strA op a b
  | _, _ => none

def unA (op : UnOp) (x : AV) : Option AV :=
  match op, x with
  | .neg, .int k n => some (.int k (k.wrap (0 - n)))
  | .xor, .int k n => bitsA .xor k (if k.signed then -1 else k.max) n
  | .not, .bool b => some (.bool !b)
  | _, _ => none

/-- What an instruction comes to. -/
inductive Out where
  | ok (v : AV) (σ : AS)
  | panic (v : AV) (σ : AS)

def okv (σ : AS) : Option AV → Option Out
  | some v => some (.ok v σ)
  | none => none

variable (X : Ctx)

def loadA (σ : AS) (agg : Bool) (n : Nat) (a : AV) : Option AV :=
  match a with
  | .ptr id off => match σ.heap[id]? with
    | some (.box cs _) => part agg n cs off
    | _ => none
  | .rptr id ver i off => match σ.heap[id]? with
    | some (.row v sz _ els) => if v = ver then (els[i]?).bind fun el => if el.length = sz then part agg n el off else none else none
    | _ => none
  | .eptr cs off => part agg n cs off
  | .glob g => (X.glob g).bind fun cs => part agg n cs 0
  | _ => none

def storeA (σ : AS) (n : Nat) (a v : AV) : Option AS :=
  match a with
  | .ptr id off => match σ.heap[id]? with
    | some (.box cs tg) => if v.isTup = false ∧ v.cells.length = n ∧ off + n ≤ cs.length then some (σ.set id (.box (splice cs off v.cells) tg) v.refs) else none
    | _ => none
  | .rptr id ver i off => match σ.heap[id]? with
    | some (.row w sz ty els) => match els[i]? with
      | some el => if w = ver ∧ el.length = sz ∧ v.isTup = false ∧ v.cells.length = n ∧ off + n ≤ el.length then some (σ.set id (.row ver sz ty (els.set i (splice el off v.cells))) v.refs) else none
      | none => none
    | _ => none
  | _ => none

/-- A slice's elements, each of so many cells. -/
def elems (σ : AS) (sz : Nat) : AV → Option (List (List AV))
  | .nils => some []
  | .sl els _ => if els.all (fun el => el.length == sz) then some els else none
  | .ref id ver sz₁ off len _ => match σ.heap[id]? with
    | some (.row v sz' _ els) => if v = ver ∧ sz' = sz ∧ sz₁ = sz ∧ off + len ≤ els.length then some ((els.drop off).take len) else none
    | _ => none
  | .aref id sz' off len => match σ.heap[id]? with
    | some (.box cs _) => if sz' = sz ∧ off + len * sz ≤ cs.length then some (chunks sz len (cs.drop off)) else none
    | _ => none
  | _ => none

def intOf? : AV → Option Int
  | .int _ n => some n
  | _ => none

def upTo (n : Nat) : Option AV → Nat → Option Nat
  | none, d => some d
  | some (.int _ i), _ => if 0 ≤ i ∧ i ≤ n then some i.toNat else none
  | some _, _ => none

/-- Bounds of a slice expression: the upper one at most len. -/
def boundsA (len : Nat) (low high : Option AV) : Option (Nat × Nat) :=
  match upTo len high len with
  | some h => match upTo h low 0 with
    | some l => some (l, h)
    | none => none
  | none => none

def slstrA (x : AV) (low high : Option AV) : Option AV :=
  match x with
  | .str s => match boundsA s.size low high with
    | some (l, h) => some (.str (s.extract l h))
    | none => none
  | _ => none

/-- The third bound: none, or at most len: is it the second one? -/
def capA (len h : Nat) (clip : Bool) : Option AV → Option Bool
  | none => some (clip && h == len)
  | some (.int _ i) => if (h : Int) ≤ i ∧ i ≤ len then some (i == h) else none
  | some _ => none

def slslA (n : Nat) (x : AV) (low high mx : Option AV) : Option AV :=
  match x with
  | .nils => match boundsA 0 low high, capA 0 0 true mx with
    | some _, some _ => some .nils
    | _, _ => none
  | .sl els clip => match boundsA els.length low high with
    | some (l, h) => match capA els.length h clip mx with
      | some c => if els.all (fun el => el.length == n) then some (.sl ((els.drop l).take (h - l)) c) else none
      | none => none
    | none => none
  | .ref id ver sz off len clip => match boundsA len low high with
    | some (l, h) => match capA len h clip mx with
      | some c => if sz = n then some (.ref id ver sz (off + l) (h - l) c) else none
      | none => none
    | none => none
  | .aref id sz off len => match boundsA len low high, mx with
    | some (l, h), none => if sz = n then some (.aref id sz (off + l * sz) (h - l)) else none
    | _, _ => none
  | _ => none

def slarrA (n sz : Nat) (x : AV) (low high : Option AV) : Option AV :=
  match boundsA n low high with
  | some (l, h) => match x with
    | .ptr id off => some (.aref id sz (off + l * sz) (h - l))
    | .eptr cs off => if off + n * sz ≤ cs.length then some (.sl (chunks sz (h - l) (cs.drop (off + l * sz))) false) else none
    | .glob g => match X.glob g with
      | some cs => if n * sz ≤ cs.length then some (.sl (chunks sz (h - l) (cs.drop (l * sz))) false) else none
      | none => none
    | _ => none
  | none => none

def bytesA (s : ByteArray) : List (List AV) := s.data.toList.map fun b => [.int .u8 b.toNat]

def stringA : List (List AV) → Option (List UInt8)
  | [] => some []
  | [.int .u8 n] :: r => (stringA r).map (UInt8.ofNat n.toNat :: ·)
  | _ => none

def room : Nat := 1099511627776

def appendA (σ : AS) (ty : TypeId) (sz bytes : Nat) (s : AV) (ys : List (List AV)) : Option (AV × AS) :=
  if 0 < sz ∧ ys.all (fun el => el.length == sz) then
    match s with
    | .nils => if ys.length = 0 then some (.nils, σ) else
      if ys.length * bytes ≤ room then some (.ref σ.heap.length 0 sz 0 ys.length false, σ.push (.row 0 sz ty ys)) else none
    | .sl els true => if ys.length = 0 then some (s, σ) else
      if (els.length + ys.length) * bytes ≤ room ∧ els.all (fun el => el.length == sz) then
        some (.ref σ.heap.length 0 sz 0 (els.length + ys.length) false, σ.push (.row 0 sz ty (els ++ ys))) else none
    | .sl _ false => if ys.length = 0 then some (s, σ) else none
    | .ref id ver sz₁ off len clip =>
      match σ.heap[id]? with
      | some (.row v sz' ty' els) =>
        if v = ver ∧ sz' = sz ∧ sz₁ = sz ∧ ty' = ty ∧ off + len ≤ els.length ∧ (len + ys.length) * bytes ≤ room then
          if ys.length = 0 then some (s, σ) else
          if clip then some (.ref σ.heap.length 0 sz 0 (len + ys.length) false, σ.push (.row 0 sz ty ((els.drop off).take len ++ ys))) else
          some (.ref id (ver + 1) sz 0 (len + ys.length) false, σ.set id (.row (ver + 1) sz ty ((els.drop off).take len ++ ys)) (refsLL ys))
        else none
      | _ => none
    | _ => none
  else none

def keyEq : AV → AV → Option Bool
  | .int k a, .int k' b => if k = k' then some (a == b) else none
  | .str a, .str b => some (a == b)
  | .bool a, .bool b => some (a == b)
  | _, _ => none

def findKeyA (k : AV) : List (AV × AV) → Option (Option AV)
  | [] => some none
  | (k', v) :: es => match keyEq k k' with
    | some true => some (some v)
    | some false => findKeyA k es
    | none => none

def putKeyA (k v : AV) : List (AV × AV) → Option (List (AV × AV))
  | [] => some [(k, v)]
  | (k', v') :: es => match keyEq k k' with
    | some true => some ((k, v) :: es)
    | some false => (putKeyA k v es).map ((k', v') :: ·)
    | none => none

def mapOf (gm : Nat → Option (List (AV × AV))) (σ : AS) : AV → Option (List (AV × AV))
  | .nilm => some []
  | .mglob g => gm g
  | .mp id => match σ.heap[id]? with
    | some (.map es) => some es
    | _ => none
  | _ => none

def isKey : AV → Bool
  | .int _ _ | .str _ | .bool _ => true
  | _ => false

def isKeyOf : EK → AV → Bool
  | .int, .int _ _ | .str, .str _ | .bool, .bool _ => true
  | _, _ => false

def lookupA (gm : Nat → Option (List (AV × AV))) (σ : AS) (kk : EK) (z m k : AV) (ok : Bool) : Option AV :=
  if isKeyOf kk k then
    match mapOf gm σ m with
    | some es => match findKeyA k es with
      | some (some v) => some (if ok then .tup [v, .bool true] else v)
      | some none => some (if ok then .tup [z, .bool false] else z)
      | none => none
    | none => none
  else none

def mputA (σ : AS) (kk : EK) (m k v : AV) : Option AS :=
  if isKeyOf kk k then
    match m with
    | .mp id => match σ.heap[id]? with
      | some (.map es) => match putKeyA k v es with
        | some es' => some (σ.set id (.map es') v.refs)
        | none => none
      | _ => none
    | _ => none
  else none

def maxA : AV → AV → Option AV
  | .int k x, .int _ y => some (.int k (if y > x then y else x))
  | _, _ => none
def minA : AV → AV → Option AV
  | .int k x, .int _ y => some (.int k (if y < x then y else x))
  | _, _ => none

def lenA (σ : AS) : EK → AV → Option AV
  | .str, .str s => some (.int .i64 s.size)
  | .sl, .nils => some (.int .i64 0)
  | .sl, .sl els _ => some (.int .i64 els.length)
  | .sl, .ref _ _ _ _ n _ => some (.int .i64 n)
  | .sl, .aref _ _ _ n => some (.int .i64 n)
  | .map, .nilm => some (.int .i64 0)
  | .map, .mp id => match σ.heap[id]? with
    | some (.map es) => some (.int .i64 es.length)
    | _ => none
  | .cap, .nils => some (.int .i64 0)
  | .cap, .sl els true => some (.int .i64 els.length)
  | .cap, .ref _ _ _ _ n true => some (.int .i64 n)
  | _, _ => none

/-- copy into a row, or into an array in a box. -/
def srcA (σ : AS) (sz : Nat) (s : AV) : Option (List (List AV)) :=
  match s with
  | .str b => if sz = 1 then some (bytesA b) else none
  | s => elems σ sz s

def copyA (σ : AS) (sz : Nat) (d s : AV) : Option (AV × AS) :=
  match srcA σ sz s with
  | some ys => match d with
    | .nils => some (.int .i64 0, σ)
    | .ref id ver sz₁ off len _ => match σ.heap[id]? with
      | some (.row v sz' ty els) =>
        if v = ver ∧ sz' = sz ∧ sz₁ = sz ∧ off + len ≤ els.length then
          some (.int .i64 (Nat.min ys.length len), σ.set id (.row ver sz ty (els.take off ++ (ys.take (Nat.min ys.length len) ++ els.drop (off + Nat.min ys.length len)))) (refsLL ys))
        else none
      | _ => none
    | .aref id sz' off len => match σ.heap[id]? with
      | some (.box cs tg) =>
        if sz' = sz ∧ off + len * sz ≤ cs.length ∧ ys.all (fun el => el.length == sz) then
          some (.int .i64 (Nat.min ys.length len), σ.set id (.box (splice cs off (ys.take (Nat.min ys.length len)).flatten) tg) (refsLL ys))
        else none
      | _ => none
    | _ => none
  | none => none

def clearA (σ : AS) (z : List AV) (x : AV) : Option AS :=
  match x with
  | .nils => some σ
  | .ref id ver sz₁ off len _ => match σ.heap[id]? with
    | some (.row v sz ty els) =>
      if v = ver ∧ sz₁ = sz ∧ sz = z.length ∧ off + len ≤ els.length ∧ refsL z = 0 then
        some (σ.set id (.row ver sz ty (els.take off ++ (List.replicate len z ++ els.drop (off + len)))) 0)
      else none
    | _ => none
  | .aref id sz off len => match σ.heap[id]? with
    | some (.box cs tg) =>
      if sz = z.length ∧ off + len * sz ≤ cs.length ∧ refsL z = 0 then
        some (σ.set id (.box (splice cs off (List.replicate len z).flatten) tg) 0)
      else none
    | _ => none
  | _ => none

def faddrA (o : Nat) (x : AV) : Option AV :=
  match x with
  | .ptr id off => some (.ptr id (off + o))
  | .rptr id ver i off => some (.rptr id ver i (off + o))
  | .eptr cs off => some (.eptr cs (off + o))
  | .glob g => match X.glob g with
    | some cs => some (.eptr cs o)
    | none => none
  | _ => none

def iaddraA (n sz : Nat) (x ix : AV) : Option AV :=
  match intOf? ix with
  | some i => if 0 ≤ i ∧ i < n then
      match x with
      | .ptr id off => some (.ptr id (off + i.toNat * sz))
      | .rptr id ver j off => some (.rptr id ver j (off + i.toNat * sz))
      | .eptr cs off => some (.eptr cs (off + i.toNat * sz))
      | .glob g => match X.glob g with
        | some cs => some (.eptr cs (i.toNat * sz))
        | none => none
      | _ => none
    else none
  | none => none

def iaddrsA (sz : Nat) (x ix : AV) : Option AV :=
  match intOf? ix with
  | some i => match x with
    | .sl els _ => if 0 ≤ i then match els[i.toNat]? with
        | some el => if el.length = sz then some (.eptr el 0) else none
        | none => none
      else none
    | .ref id ver sz' off len _ => if 0 ≤ i ∧ i < len ∧ sz' = sz then some (.rptr id ver (off + i.toNat) 0) else none
    | .aref id sz' off len => if 0 ≤ i ∧ i < len ∧ sz' = sz then some (.ptr id (off + i.toNat * sz)) else none
    | _ => none
  | none => none

def idxaA (agg : Bool) (n sz : Nat) (x ix : AV) : Option AV :=
  match intOf? ix, x with
  | some i, .agg cs => if 0 ≤ i ∧ i < n then part agg sz cs (i.toNat * sz) else none
  | _, _ => none

def idxsA (x ix : AV) : Option AV :=
  match intOf? ix, x with
  | some i, .str s => if 0 ≤ i then match s.data.toList[i.toNat]? with
      | some b => some (.int .u8 b.toNat)
      | none => none
    else none
  | _, _ => none

def mksliceA (σ : AS) (ty : TypeId) (z : List AV) (bytes : Nat) (l c : AV) : Option (AV × AS) :=
  match l, c with
  | .int _ l, .int _ c => if 0 ≤ l ∧ l ≤ c ∧ c * bytes ≤ room ∧ c ≤ room then
      some (.ref σ.heap.length 0 z.length 0 l.toNat false, σ.push (.row 0 z.length ty (List.replicate l.toNat z)))
    else none
  | _, _ => none

def taA (z x : AV) (t : TypeId) (ok : Bool) : Option AV :=
  match x with
  | .nili => if ok then some (.tup [z, .bool false]) else none
  | .ifc t' v => if t' = t then some (if ok then .tup [v, .bool true] else v) else if ok then some (.tup [z, .bool false]) else none
  | _ => none

def taiA (yes : List TypeId) (x : AV) (ok : Bool) : Option AV :=
  match x with
  | .nili => if ok then some (.tup [.nili, .bool false]) else none
  | .ifc t v => if yes.contains t then some (if ok then .tup [.ifc t v, .bool true] else .ifc t v) else none
  | _ => none

def foldA (f : AV → AV → Option AV) : List AV → Option AV
  | [] => none
  | [x] => some x
  | x :: y :: r => match f x y with
    | some z => foldA f (z :: r)
    | none => none
termination_by l => l.length

def nilckA : AV → Option AV
  | .ptr id off => some (.ptr id off)
  | .rptr id ver i off => some (.rptr id ver i off)
  | .eptr cs off => some (.eptr cs off)
  | .glob g => some (.glob g)
  | .fn (.func f) a b => some (.fn (.func f) a b)
  | .fn (.yield l) a b => some (.fn (.yield l) a b)
  | _ => none

def exec (C : Caller) (i : I) (e : Env) (σ : AS) : Option Out :=
  match i with
  | .mov x => some (.ok (x.get e) σ)
  | .pick c a b => match c.get e with
    | .bool t => some (.ok (if t then a.get e else b.get e) σ)
    | _ => none
  | .alloc z tg => some (.ok (.ptr σ.heap.length 0) (σ.push (.box z tg)))
  | .box x tg => if (x.get e).isTup then none else some (.ok (.ptr σ.heap.length 0) (σ.push (.box (x.get e).cells tg)))
  | .build z parts => match fillA z (parts.map fun p => (p.1, p.2.1, p.2.2.get e)) with
    | some cs => some (.ok (.agg cs) σ)
    | none => none
  | .bslice z len parts => match fillA (List.replicate len z).flatten (parts.map fun p => (p.1, p.2.1, p.2.2.get e)) with
    | some cs => some (.ok (.sl (chunks z.length len cs) true) σ)
    | none => none
  | .brow ty z len parts => match fillA (List.replicate len z).flatten (parts.map fun p => (p.1, p.2.1, p.2.2.get e)) with
    | some cs => some (.ok (.ref σ.heap.length 0 z.length 0 len false) (σ.push (.row 0 z.length ty (chunks z.length len cs))))
    | none => none
  | .load agg n a => okv σ (loadA X σ agg n (a.get e))
  | .store n a v => match storeA σ n (a.get e) (v.get e) with
    | some σ' => some (.ok .undef σ')
    | none => none
  | .nilck x => okv σ (nilckA (x.get e))
  | .bin op x y => okv σ (binA op (x.get e) (y.get e))
  | .shf op x y => match x.get e, y.get e with
    | .int k a, .int _ b => okv σ (shiftA op k a b)
    | _, _ => none
  | .eq k x y => match eqA k (x.get e) (y.get e) with
    | some b => some (.ok (.bool b) σ)
    | none => none
  | .ne k x y => match eqA k (x.get e) (y.get e) with
    | some b => some (.ok (.bool !b) σ)
    | none => none
  | .un op x => okv σ (unA op (x.get e))
  | .conv k x => match x.get e with
    | .int _ n => some (.ok (.int k (k.wrap n)) σ)
    | _ => none
  | .convs x => match x.get e with
    | .str s => some (.ok (.str s) σ)
    | _ => none
  | .s2b x => match x.get e with
    | .str s => if s.size ≤ room then some (.ok (.sl (bytesA s) false) σ) else none
    | _ => none
  | .b2s x => match elems σ 1 (x.get e) with
    | some els => match stringA els with
      | some l => some (.ok (.str ⟨l.toArray⟩) σ)
      | none => none
    | none => none
  | .mki t x => some (.ok (.ifc t (x.get e)) σ)
  | .mkf f first cap => some (.ok (.fn f (first.map (·.get e)) (cap.map (·.get e))) σ)
  | .mkmap => some (.ok (.mp σ.heap.length) (σ.push (.map [])))
  | .mkslice ty z bytes l c => match mksliceA σ ty z bytes (l.get e) (c.get e) with
    | some (v, σ') => some (.ok v σ')
    | none => none
  | .slstr x lo hi => okv σ (slstrA (x.get e) (lo.map (·.get e)) (hi.map (·.get e)))
  | .slsl n x lo hi mx => okv σ (slslA n (x.get e) (lo.map (·.get e)) (hi.map (·.get e)) (mx.map (·.get e)))
  | .slarr n sz x lo hi => okv σ (slarrA X n sz (x.get e) (lo.map (·.get e)) (hi.map (·.get e)))
  | .faddr o x => okv σ (faddrA X o (x.get e))
  | .fld agg n off x => match x.get e with
    | .agg cs => okv σ (part agg n cs off)
    | _ => none
  | .iaddra n sz x i => okv σ (iaddraA X n sz (x.get e) (i.get e))
  | .iaddrs sz x i => okv σ (iaddrsA sz (x.get e) (i.get e))
  | .idxa agg n sz x i => okv σ (idxaA agg n sz (x.get e) (i.get e))
  | .idxs x i => okv σ (idxsA (x.get e) (i.get e))
  | .lookup kk z m k ok => okv σ (lookupA X.gmap σ kk z (m.get e) (k.get e) ok)
  | .mput kk m k v => match mputA σ kk (m.get e) (k.get e) (v.get e) with
    | some σ' => some (.ok .undef σ')
    | none => none
  | .tai x ok yes => okv σ (taiA yes (x.get e) ok)
  | .ta z x t ok => okv σ (taA z (x.get e) t ok)
  | .ext x i => match x.get e with
    | .tup vs => okv σ (vs[i]?)
    | _ => none
  | .len k x => okv σ (lenA σ k (x.get e))
  | .lenarr n => some (.ok (.int .i64 n) σ)
  | .append ty sz bytes s x => match elems σ sz (x.get e) with
    | some ys => match appendA σ ty sz bytes (s.get e) ys with
      | some (v, σ') => some (.ok v σ')
      | none => none
    | none => none
  | .appends ty s x => match x.get e with
    | .str b => match appendA σ ty 1 1 (s.get e) (bytesA b) with
      | some (v, σ') => some (.ok v σ')
      | none => none
    | _ => none
  | .copy sz d s => match copyA σ sz (d.get e) (s.get e) with
    | some (v, σ') => some (.ok v σ')
    | none => none
  | .clear z x => match clearA σ z (x.get e) with
    | some σ' => some (.ok .undef σ')
    | none => none
  | .max xs => okv σ (foldA maxA (xs.map (·.get e)))
  | .min xs => okv σ (foldA minA (xs.map (·.get e)))
  | .usd x => match x.get e with
    | .nils => some (.ok .nilp σ)
    | .ref id ver sz off len _ => if 0 < len ∧ sz = 1 then some (.ok (.rptr id ver off 0) σ) else none
    | _ => none
  | .ustr ty p n => match p.get e, n.get e with
    | .nilp, .int _ n => if n = 0 then some (.ok (.str .empty) σ) else none
    | .rptr id ver i 0, .int _ n => match σ.heap[id]? with
      | some (.row v 1 ty' els) =>
        if v = ver ∧ ty' = ty ∧ 0 < n ∧ i + n ≤ els.length ∧ n ≤ room then
          match stringA ((els.drop i).take n.toNat) with
          | some l => some (.ok (.str ⟨l.toArray⟩) (σ.set id .dead 0))
          | none => none
        else none
      | _ => none
    | _, _ => none
  | .rng x => match x.get e with
    | .str s => some (.ok (.ptr σ.heap.length 0) (σ.push (.siter s 0)))
    | _ => none
  | .nxt x => match x.get e with
    | .ptr id 0 => match σ.heap[id]? with
      | some (.siter s pos) =>
        if pos < s.size then
          some (.ok (.tup [.bool true, .int .i64 pos, .int .i32 (Utf8.decode s pos).1]) (σ.set id (.siter s (pos + (Utf8.decode s pos).2)) 0))
        else some (.ok (.tup [.bool false]) σ)
      | _ => none
    | _ => none
  | .call f args => match C (f.get e) (args.map (·.get e)) σ with
    | some (.ret v σ') => some (.ok v σ')
    | some (.panic v σ') => some (.panic v σ')
    | none => none
  | .panic x => match x.get e with
    | .ifc t v => some (.panic (.ifc t v) σ)
    | _ => none

structure Fr where
  env : Env
  marks : List Nat
  deriving Inhabited

def Fr.put (fr : Fr) (dst : Option Nat) (v : AV) : Fr :=
  match dst with
  | some d => { fr with env := fr.env.set d v }
  | none => fr

inductive Ex where
  | normal
  | exit (id : Nat)
  | ret
  | panic (v : AV)

abbrev Res := Option (Ex × Fr × AS)

def wantedA (e : Env) : Option (Nat × Bool) → Bool
  | none => true
  | some (t, want) => match e t with
    | .bool b => b == want
    | _ => false

def runOps (C : Caller) : List Ins → Fr → AS → Res
  | [], fr, σ => some (.normal, fr, σ)
  | o :: os, fr, σ =>
    if wantedA fr.env o.g then
      match exec X C o.i fr.env σ with
      | some (.ok v σ') => runOps C os (fr.put o.dst v) σ'
      | some (.panic v σ') => some (.panic v, fr, σ')
      | none => none
    else runOps C os (fr.put o.dst .undef) σ

/-- What an instruction has to do with the state. -/
inductive FP where
  | no
  | rd (id off n : Nat)
  | q
  | wr (id off n : Nat)
  | app
  | all

/-- May two that are not tied to one another come in either order? -/
def FP.ok : FP → FP → Bool
  | .no, _ => true
  | _, .no => true
  | .rd .., .rd .. => true
  | .rd .., .q => true
  | .q, .rd .. => true
  | .q, .q => true
  | .rd id off n, .wr id' off' n' => id != id' || off + n ≤ off' || off' + n' ≤ off
  | .wr id off n, .rd id' off' n' => id != id' || off + n ≤ off' || off' + n' ≤ off
  | .rd .., .app => true
  | .app, .rd .. => true
  | _, _ => false

open Classical in
noncomputable def fpOf (i : I) (e : Env) (σ σ' : AS) : FP :=
  match i with
  | .load _ n a => match a.get e with
    | .ptr id off => .rd id off (Nat.max n 1)
    | .rptr .. => .q
    | .eptr .. => .no
    | .glob _ => .no
    | _ => .all
  | .lookup .. | .b2s _ => .q
  | .len k _ => match k with
    | .map => .q
    | _ => .no
  | .store n a _ => match a.get e with
    | .ptr id off => .wr id off n
    | .rptr .. => .app
    | _ => .all
  | .append .. | .appends .. => .app
  | .call .. => if σ' = σ then .q else .all
  | .alloc _ _ | .box .. | .brow .. | .mkmap | .mkslice .. | .mput .. | .copy .. | .clear .. | .ustr .. | .rng _ | .nxt _ | .panic _ => .all
  | _ => .no

/-- 0: hangs on temporaries alone · 1: looks into the state · 2: a call · 3: acts. -/
def I.cls : I → Nat
  | .mov _ | .pick .. | .build .. | .bslice .. | .nilck _ | .bin .. | .shf .. | .eq .. | .ne .. | .un .. | .conv .. | .convs _ | .s2b _ | .mki .. | .mkf .. => 0
  | .usd _ | .slstr .. | .slsl .. | .slarr .. | .faddr .. | .fld .. | .iaddra .. | .iaddrs .. | .idxa .. | .idxs .. | .tai .. | .ta .. | .ext .. | .lenarr _ | .max _ | .min _ => 0
  | .load .. | .lookup .. | .len .. | .b2s _ => 1
  | .call .. => 2
  | _ => 3

def Opd.tmps : Opd → List Nat
  | .t i => [i]
  | .c _ => []

def opdsTmps (l : List Opd) : List Nat := l.flatMap Opd.tmps

def I.reads : I → List Nat
  | .mov x | .box x _ | .nilck x | .un _ x | .conv _ x | .convs x | .s2b x | .b2s x | .mki _ x | .tai x _ _ | .ta _ x _ _ | .ext x _ | .len _ x | .clear _ x | .panic x | .usd x | .rng x | .nxt x => x.tmps
  | .alloc _ _ | .mkmap | .lenarr _ => []
  | .pick a b c | .mput _ a b c => opdsTmps [a, b, c]
  | .build _ ps | .bslice _ _ ps | .brow _ _ _ ps => opdsTmps (ps.map (·.2.2))
  | .load _ _ a => a.tmps
  | .store _ a v | .bin _ a v | .shf _ a v | .eq _ a v | .ne _ a v | .mkslice _ _ _ a v | .ustr _ a v | .iaddra _ _ a v | .iaddrs _ a v | .idxa _ _ _ a v | .idxs a v
  | .lookup _ _ a v _ | .append _ _ _ a v | .appends _ a v | .copy _ a v => opdsTmps [a, v]
  | .mkf _ a b => opdsTmps (a ++ b)
  | .slstr x lo hi | .slarr _ _ x lo hi => opdsTmps (x :: (lo.toList ++ hi.toList))
  | .slsl _ x lo hi mx => opdsTmps (x :: (lo.toList ++ hi.toList ++ mx.toList))
  | .faddr _ x | .fld _ _ _ x => x.tmps
  | .max xs | .min xs => opdsTmps xs
  | .call f as => opdsTmps (f :: as)

def Ins.reads (o : Ins) : List Nat := o.i.reads ++ (match o.g with | some (t, _) => [t] | none => [])

def disj (l m : List Nat) : Bool := l.all fun x => !m.contains x

/-- Neither looks at, nor writes, what the other one writes. -/
def apartI (x y : Ins) : Bool :=
  disj x.dst.toList y.reads && disj y.dst.toList x.reads && disj x.dst.toList y.dst.toList

def FP.is : FP → Bool
  | .no => false
  | _ => true

/-- May an operation that panics end the region: is it tied to all the others, the ones ahead and the ones behind? -/
def panicOk (fps : List FP) (o : Ins × List Nat) (os : List (Ins × List Nat)) : Bool :=
  o.2.isEmpty && (o.1.i.cls != 0 && (fps.all FP.is && os.all fun o' => if o'.1.i.cls = 0 then !apartI o.1 o'.1 else !o'.2.contains fps.length))

noncomputable def runOpsD (C : Caller) : List FP → List (Ins × List Nat) → Fr → AS → Res
  | _, [], fr, σ => some (.normal, fr, σ)
  | fps, o :: os, fr, σ =>
    if wantedA fr.env o.1.g then
      match exec X C o.1.i fr.env σ with
      | some (.ok v σ') =>
        if o.2.all (fun j => ((fps.getD j .all).ok (fpOf o.1.i fr.env σ σ'))) then
          runOpsD C (fps ++ [fpOf o.1.i fr.env σ σ']) os (fr.put o.1.dst v) σ'
        else none
      | some (.panic v σ') => if panicOk fps o os then some (.panic v, fr, σ') else none
      | none => none
    else runOpsD C (fps ++ [.no]) os (fr.put o.1.dst .undef) σ

/-! New variables of a region that draws its order are laid ahead of it. -/

def Ins.newBox (x : Ins) : Option AObj := match x.i with
  | .alloc z tg => some (.box z tg)
  | _ => none

def slotIns (m : Nat) (x : Ins) : Ins := match x.newBox with
  | some _ => { x with i := .mov (.c (.ptr m 0)) }
  | none => x

def slotOps : Nat → List (Ins × List Nat) → List (Ins × List Nat)
  | _, [] => []
  | n, o :: os => (slotIns n o.1, o.2) :: slotOps (match o.1.newBox with | some _ => n + 1 | none => n) os

def slotZs : List (Ins × List Nat) → List AObj
  | [] => []
  | o :: os => match o.1.newBox with
    | some b => b :: slotZs os
    | none => slotZs os

def AS.pushL (σ : AS) (os : List AObj) : AS := { σ with heap := σ.heap ++ os }

def jumpOf : PC → Option Ex
  | .ret => some .ret
  | .exit id => some (.exit id)
  | _ => none

abbrev Loops := (Fr → AS → Res) → Fr → AS → Res

/-- A function of the program, of which the code is known. -/
def isCode : AV → Bool
  | .fn (.func f) _ _ => (X.prim f).isNone && (X.code f).isSome
  | _ => false

/-- What comes behind a range over a function. -/
def endLoop (l : Nat) (fr : Fr) (σ : AS) : Res :=
  match σ.heap[l]? with
  | some (.loop st pend f env ps as bd) =>
    if st = .busy then none else
    match pend with
    | none => some (.normal, fr, σ.set l (.loop .exhausted pend f env ps as bd) 0)
    | some j => match jumpOf j with
      | some ex => some (ex, fr, σ.set l (.loop .exhausted pend f env ps as bd) 0)
      | none => none
  | _ => none

def envRefs (e : Env) : Nat → Nat
  | 0 => 0
  | n + 1 => Nat.max (e n).refs (envRefs e n)

/-- fid: the function whose activation it is; rd: within a round of a range over a function? -/
noncomputable def runCode (C : Caller) (L : Loops) (fid : FuncId) (rd : Bool) : PC → Fr → AS → Res
  | .skip, fr, σ => some (.normal, fr, σ)
  | .seq a b, fr, σ => match runCode C L fid rd a fr σ with
    | some (.normal, fr', σ') => runCode C L fid rd b fr' σ'
    | r => r
  | .cond c a b, fr, σ => match c.get fr.env with
    | .bool t => if t then runCode C L fid rd a fr σ else runCode C L fid rd b fr σ
    | _ => none
  | .block id body, fr, σ => match runCode C L fid rd body fr σ with
    | some (.exit id', fr', σ') => if id' = id then some (.normal, fr', σ') else some (.exit id', fr', σ')
    | r => r
  | .loop body, fr, σ => L (runCode C L fid rd body) fr σ
  | .exit id, fr, σ => some (.exit id, fr, σ)
  | .ret, fr, σ => some (.ret, fr, σ)
  | .reg ops, fr, σ => runOps X C ops fr σ
  | .dreg ops, fr, σ => runOpsD X C [] (slotOps σ.heap.length ops) fr (σ.pushL (slotZs ops))
  | .rfun g params assign body, fr, σ =>
    if rd then none else
    if isCode X (g.get fr.env) then
      match C (g.get fr.env) [.fn (.yield (σ.heap.length + 1)) [] []] ((σ.push .dfr).push (.loop .ready none fid fr.env params assign body)) with
      | some (.ret _ σ') => endLoop (σ.heap.length + 1) { fr with marks := σ.heap.length :: fr.marks } σ'
      | some (.panic v σ') => some (.panic v, { fr with marks := σ.heap.length :: fr.marks }, σ')
      | none => none
    else none

mutual
def freeze (σ : AS) (n : Nat) : Nat → AV → Option AV
  | 0, _ => none
  | k + 1, v => if v.refs ≤ n then some v else
    match v with
    | .ref id ver sz off len clip => match σ.heap[id]? with
      | some (.row v sz' _ els) => if v = ver ∧ sz' = sz ∧ off + len ≤ els.length then
          match freezeLL σ n k ((els.drop off).take len) with
          | some els' => some (.sl els' clip)
          | none => none
        else none
      | _ => none
    | .agg cs => match freezeL σ n k cs with
      | some cs' => some (.agg cs')
      | none => none
    | .tup cs => match freezeL σ n k cs with
      | some cs' => some (.tup cs')
      | none => none
    | .sl els clip => match freezeLL σ n k els with
      | some els' => some (.sl els' clip)
      | none => none
    | _ => none
def freezeL (σ : AS) (n : Nat) : Nat → List AV → Option (List AV)
  | _, [] => some []
  | 0, _ :: _ => none
  | k + 1, a :: as => match freeze σ n k a with
    | some a' => match freezeL σ n (k + 1) as with
      | some as' => some (a' :: as')
      | none => none
    | none => none
def freezeLL (σ : AS) (n : Nat) : Nat → List (List AV) → Option (List (List AV))
  | _, [] => some []
  | 0, _ :: _ => none
  | k + 1, a :: as => match freezeL σ n k a with
    | some a' => match freezeLL σ n (k + 1) as with
      | some as' => some (a' :: as')
      | none => none
    | none => none
end

/-- At a call's end: what was laid since is dropped, if nothing older refers to it. -/
def finish (n : Nat) (lo₀ : Option Nat) (v : AV) (σ : AS) : AV × AS :=
  if (match σ.lo with | none => true | some j => n ≤ j) then
    match freeze σ n 12 v with
    | some v' => (v', { heap := σ.heap.take n, lo := lo₀ })
    | none => (v, { heap := σ.heap, lo := joinLo lo₀ σ.lo })
  else (v, { heap := σ.heap, lo := joinLo lo₀ σ.lo })

def resultA (σ : AS) (e : Env) : RV → Option AV
  | .t i => some (e i)
  | .cell a agg n => loadA X σ agg n (e a)

def resultsL (σ : AS) (e : Env) : List RV → Option (List AV)
  | [] => some []
  | r :: rs => match resultA X σ e r with
    | some v => match resultsL σ e rs with
      | some vs => some (v :: vs)
      | none => none
    | none => none

def resultsA (σ : AS) (e : Env) (rs : List RV) : Option AV :=
  match resultsL X σ e rs with
  | some [v] => some v
  | some vs => some (.tup vs)
  | none => none

def killMarks (σ : AS) : List Nat → Option AS
  | [] => some σ
  | m :: ms => match σ.heap[m]? with
    | some .dfr => killMarks (σ.set m .dead 0) ms
    | _ => none

def envOf (args : List AV) : Env := fun t => args.getD t .undef

def setParams (e : Env) : List Nat → List AV → Env
  | p :: ps, a :: as => setParams (e.set p a) ps as
  | _, _ => e

def leaveRet (n : Nat) (lo₀ : Option Nat) (pf : PF) (fr : Fr) (σ : AS) : Option CRes :=
  match killMarks σ fr.marks with
  | some σ₁ => match resultsA X σ₁ fr.env pf.results with
    | some v => some (.ret (finish n lo₀ v σ₁).1 (finish n lo₀ v σ₁).2)
    | none => none
  | none => none

def leave (n : Nat) (lo₀ : Option Nat) (pf : PF) : Res → Option CRes
  | some (.normal, fr, σ) => leaveRet X n lo₀ pf fr σ
  | some (.ret, fr, σ) => leaveRet X n lo₀ pf fr σ
  | some (.panic v, fr, σ) => match killMarks σ fr.marks with
    | some σ₁ => some (.panic (finish n lo₀ v σ₁).1 (finish n lo₀ v σ₁).2)
    | none => none
  | _ => none

def jumpCode : Ex → Option (Option PC)
  | .normal => some none
  | .ret => some (some .ret)
  | .exit id => some (some (.exit id))
  | .panic _ => none

def endRound (l n : Nat) (lo₀ : Option Nat) : Res → Option CRes
  | some (ex, _, σ) => match jumpCode ex, σ.heap[l]? with
    | some j, some (.loop _ _ f env ps as bd) =>
      some (.ret (.bool j.isNone) (finish n lo₀ (.bool j.isNone) (σ.set l (.loop (if j.isNone then .ready else .done) j f env ps as bd) 0)).2)
    | _, _ => none
  | none => none

/-- A round: the assignment to the loop's left sides, the body. -/
noncomputable def runRound (C : Caller) (L : Loops) (l : Nat) (args : List AV) (σ : AS) : Option CRes :=
  match σ.heap[l]? with
  | some (.loop _ _ f env ps assign body) =>
    if args.length = ps.length then
      match runCode X C L f true assign { env := setParams env ps args, marks := [] } { σ with lo := none } with
      | some (.normal, fr, σ₁) =>
        match σ₁.heap[l]? with
        | some (.loop .ready pend f' env' ps' as' bd') =>
          endRound l σ.heap.length σ.lo (runCode X C L f true body fr (σ₁.set l (.loop .busy pend f' env' ps' as' bd') 0))
        | _ => none
      | _ => none
    else none
  | _ => none

/-- One level of a call. -/
noncomputable def step (C : Caller) (L : Loops) : Caller
  | .fn (.func f) first cap, args, σ =>
    match X.prim f with
    | some p => p (first ++ args ++ cap) σ
    | none =>
      match X.code f with
      | some pf =>
        if (first ++ args ++ cap).length ≤ pf.ntmps then
          leave X σ.heap.length σ.lo pf (runCode X C L f false pf.body { env := envOf (first ++ args ++ cap), marks := [] } { σ with lo := none })
        else none
      | none => none
  | .fn (.yield l) [] _, args, σ => runRound X C L l args σ
  | _, _, _ => none

def iter : Nat → Loops
  | 0, _, _, _ => none
  | n + 1, body, fr, σ => match body fr σ with
    | some (.normal, fr', σ') => iter n body fr' σ'
    | r => r

noncomputable def callV : Nat → Caller
  | 0 => fun _ _ _ => none
  | n + 1 => step X (callV n) (iter n)

end Go.Den

/- Den: from the model's code to the compact code. -/
namespace Go.Den
open Go

variable (P : Program)

def sizeT (t : TypeId) : Option Nat := (P.info? t).map (·.size)
def bytesT (t : TypeId) : Option Nat := (P.info? t).map (·.bytes)
def aggT (t : TypeId) : Option Bool := (P.underlying t).map fun | .struct _ | .array _ _ => true | _ => false

def AV.plain : AV → Bool
  | .junk => false
  | _ => true

/-- A constant that Den knows. -/
def constOk : Value → Bool
  | .agg cs => cs.toList.all fun v => (AV.ofScalar v).plain && !(AV.ofScalar v).isTup
  | .iface _ v => (AV.ofScalar v).plain
  | v => (AV.ofScalar v).plain

def zeroV (t : TypeId) : Option Value := (P.info? t).bind (·.zero)

def zeroT (t : TypeId) : Option AV :=
  match zeroV P t with
  | some z => if constOk z then some (AV.ofValue z) else none
  | none => none

/-- A type's zero cells: none of them unknown, as many as the type has. -/
def zcells (t : TypeId) : Option (List AV) :=
  match zeroT P t, sizeT P t with
  | some z, some n => if z.isTup = false ∧ z.cells.length = n then some z.cells else none
  | _, _ => none

/-- The type that is kept with a new variable: that of a strings.Builder. -/
def tagZ : List AV → TypeId → Option TypeId
  | [.nilp, .nils], t => some t
  | _, _ => none

def opd : Operand → Option Opd
  | .tmp t => some (.t t)
  | .const v => if constOk v then some (.c (AV.ofValue v)) else none
  | .global g => some (.c (.glob g))
  | .func f => some (.c (.fn (.func f) [] []))

def opds : List Operand → Option (List Opd)
  | [] => some []
  | x :: xs => match opd x, opds xs with
    | some y, some ys => some (y :: ys)
    | _, _ => none

def opdO : Option Operand → Option (Option Opd)
  | none => some none
  | some x => (opd x).map some

def parts (place : Nat → Option (Nat × Nat)) : List (Nat × Operand) → Option (List (Nat × Nat × Opd))
  | [] => some []
  | (i, x) :: r => match place i, opd x, parts place r with
    | some (off, n), some y, some r' => some ((off, n, y) :: r')
    | _, _, _ => none

/-- Fields that lie one behind the other, from off on: the kinds of their cells. -/
def eqFieldsC (f : TypeId → Option (List EK)) : List Field → Nat → Option (List EK)
  | [], _ => some []
  | g :: gs, off => match f g.type with
    | some ks => if g.name ≠ "_" ∧ g.offset = off ∧ sizeT P g.type = some ks.length then (eqFieldsC f gs (off + ks.length)).map (ks ++ ·) else none
    | none => none

/-- The kinds of a type's cells, if values of it may be compared cell by cell. -/
def eqCells : Nat → TypeId → Option (List EK)
  | 0, _ => none
  | d + 1, t => match P.underlying t with
    | some .bool => some [.bool]
    | some (.int _) => some [.int]
    | some .string => some [.str]
    | some (.struct fields) => if P.stoodInHeld t = false then eqFieldsC P (eqCells d) fields.toList 0 else none
    | some (.array n e) => match eqCells d e with
      | some ks => if sizeT P e = some ks.length ∧ n * ks.length ≤ 1024 then some (List.replicate n ks).flatten else none
      | none => none
    | _ => none

/-- The types of integers that may be compared. -/
def intTypes : List TypeId :=
  (List.range P.types.size).filter fun t => match P.info? t, P.underlying t with
    | some i, some (.int _) => i.comparable
    | _, _ => false

def eqKind (t : TypeId) (x y : Operand) : Option EK :=
  match P.underlying t with
  | some .bool => some .bool
  | some (.int _) => some .int
  | some .string => some .str
  | some (.pointer _) => some .ptr
  | some (.slice _) => some .sl
  | some (.map _ _) => some .map
  | some (.func _ _ _) => some .fn
  | some (.interface _) => (match x, y with | .const .nilIface, _ => some .ifc | _, .const .nilIface => some .ifc | _, _ => some (.ife (intTypes P)))
  | some (.struct _) => if P.eqGuardType P.depth t = false then (eqCells P 10 t).map .agg else none
  | some (.array _ _) => if P.eqGuardType P.depth t = false then (eqCells P 10 t).map .agg else none
  | _ => none

def keyKind (t : TypeId) : Option EK :=
  match P.underlying t with
  | some .bool => some .bool
  | some (.int _) => some .int
  | some .string => some .str
  | _ => none

def nilZero (t : TypeId) : Bool := match zeroV P t with | some .nilIface => true | _ => false

def isYield : Fn → Bool
  | .yield _ => true
  | _ => false

/-- The types that have an interface's methods: those of the program's list. -/
def typesWith (want : Array (String × TypeId)) : List TypeId :=
  (List.range P.types.size).filter fun t => match P.info? t with
    | some i => (Instr.missingMethod want i.methods).isNone
    | none => false

def prepCall (type : TypeId) (c : Call) : Option I :=
  match c.callee, c.argTypes.toList, c.args.toList with
  | .value f, _, args => match opd f, opds args with
    | some f, some as => some (.call f as)
    | _, _ => none
  | .builtin .len, [t], [x] => match P.underlying t with
    | some .string => (opd x).map (.len .str)
    | some (.slice _) => (opd x).map (.len .sl)
    | some (.map _ _) => (opd x).map (.len .map)
    | some (.array n _) => some (.lenarr n)
    | _ => none
  | .builtin .append, [st, xt], [s, x] => match P.underlying st with
    | some (.slice e) => match sizeT P e, bytesT P e, opd s, opd x with
      | some sz, some b, some s, some x => match P.underlying xt with
        | some (.slice _) => if 0 < b ∧ (zcells P e).isSome then some (.append e sz b s x) else none
        | some .string => match P.underlying e with
          | some (.int .u8) => if sz = 1 ∧ b = 1 ∧ (zcells P e).isSome then some (.appends e s x) else none
          | _ => none
        | _ => none
      | _, _, _, _ => none
    | _ => none
  | .builtin .copy, [dt, _], [d, s] => match P.underlying dt with
    | some (.slice e) => match sizeT P e, opd d, opd s with
      | some sz, some d, some s => some (.copy sz d s)
      | _, _, _ => none
    | _ => none
  | .builtin .unsafeSliceData, [t], [x] => match P.underlying t with
    | some (.slice _) => (opd x).map .usd
    | _ => none
  | .builtin .unsafeString, pt :: rest, [p, n] => match P.underlying pt with
    | some (.pointer e) => match P.underlying e, opd p, opd n with
      | some (.int .u8), some p, some n => if sizeT P e = some 1 ∧ rest.length = 1 then some (.ustr e p n) else none
      | _, _, _ => none
    | _ => none
  | .builtin .clear, [t], [x] => match P.underlying t with
    | some (.slice e) => match zcells P e, opd x with
      | some z, some x => some (.clear z x)
      | _, _ => none
    | _ => none
  | .builtin .max, _, xs => match P.underlying type with
    | some (.int _) => (opds xs).map .max
    | _ => none
  | .builtin .min, _, xs => match P.underlying type with
    | some (.int _) => (opds xs).map .min
    | _ => none
  | .builtin .cap, [t], [x] => match P.underlying t with
    | some (.slice _) => (opd x).map (.len .cap)
    | _ => none
  | _, _, _ => none

def prepOp (rows : Bool) (o : Oper) : Option I :=
  match o.op with
  | .move x | .assign x => (opd x).map .mov
  | .pick c a b => match opd c, opd a, opd b with
    | some c, some a, some b => some (.pick c a b)
    | _, _, _ => none
  | .alloc t => (zcells P t).map fun z => .alloc z (tagZ z t)
  | .box t x => (opd x).map fun x => .box x ((zcells P t).bind fun z => tagZ z t)
  | .build t ps => match P.underlying t, zcells P t with
    | some (.struct fields), some z => if fields.toList.all (fun f => (sizeT P f.type).isSome) then (parts (fun i => match fields[i]? with
        | some f => (sizeT P f.type).map fun n => (f.offset, n)
        | none => none) ps.toList).map (.build z) else none
    | some (.array _ e), some z => match sizeT P e with
      | some sz => (parts (fun i => some (i * sz, sz)) ps.toList).map (.build z)
      | none => none
    | _, _ => none
  | .buildSlice t len ps => match P.underlying t with
    | some (.slice e) => match zcells P e with
      | some z => if len * z.length ≤ 65536 ∧ 0 < z.length then
          (parts (fun i => some (i * z.length, z.length)) ps.toList).map fun ps => if rows then .brow e z len ps else .bslice z len ps
        else none
      | none => none
    | _ => none
  | .load t a => match aggT P t, sizeT P t, opd a with
    | some b, some n, some a => some (.load b n a)
    | _, _, _ => none
  | .store t a v => match sizeT P t, opd a, opd v with
    | some n, some a, some v => some (.store n a v)
    | _, _, _ => none
  | .nilCheck x => (opd x).map .nilck
  | .binOp op t x y _ => match opd x, opd y with
    | some x', some y' => match op, P.underlying t with
      | .shl, some (.int _) | .shr, some (.int _) => some (.shf op x' y')
      | .eql, _ => (eqKind P t x y).map fun k => .eq k x' y'
      | .neq, _ => (eqKind P t x y).map fun k => .ne k x' y'
      | _, some (.int _) | _, some .string => some (.bin op x' y')
      | _, _ => none
    | _, _ => none
  | .unOp op _ x => (opd x).map (.un op)
  | .convert src dst x => match P.underlying src, P.underlying dst, opd x with
    | some (.int _), some (.int k), some x => some (.conv k x)
    | some .string, some .string, some x => some (.convs x)
    | some .string, some (.slice e), some x => match P.underlying e with
      | some (.int .u8) => some (.s2b x)
      | _ => none
    | some (.slice e), some .string, some x => match P.underlying e with
      | some (.int .u8) => some (.b2s x)
      | _ => none
    | _, _, _ => none
  | .makeInterface t x => match P.underlying t with
    | some (.interface _) | none => none
    | some _ => (opd x).map (.mki t)
  | .makeFunc f first cap => match opds first.toList, opds cap.toList with
    | some a, some b => if isYield f then none else some (.mkf f a b)
    | _, _ => none
  | .makeMap _ none => some .mkmap
  | .makeSlice t l c => match P.underlying t with
    | some (.slice e) => match zcells P e, bytesT P e, opd l, opd c with
      | some z, some b, some l, some c => if 0 < z.length ∧ 0 < b then some (.mkslice e z b l c) else none
      | _, _, _, _ => none
    | _ => none
  | .slice t x lo hi mx => match opd x, opdO lo, opdO hi, opdO mx with
    | some x, some lo, some hi, some mx => match P.underlying t with
      | some .string => if mx.isNone then some (.slstr x lo hi) else none
      | some (.slice e) => if mx.isNone || hi.isSome then (sizeT P e).map fun n => .slsl n x lo hi mx else none
      | some (.array n e) => if mx.isNone then (sizeT P e).map fun sz => .slarr n sz x lo hi else none
      | _ => none
    | _, _, _, _ => none
  | .fieldAddr s x f => match P.underlying s, opd x with
    | some (.struct fields), some x => match fields[f]? with
      | some g => match sizeT P g.type with
        | some n => if 0 < n then some (.faddr g.offset x) else none
        | none => none
      | none => none
    | _, _ => none
  | .field s x f => match P.underlying s, opd x with
    | some (.struct fields), some x => match fields[f]? with
      | some g => match aggT P g.type, sizeT P g.type with
        | some b, some n => some (.fld b n g.offset x)
        | _, _ => none
      | none => none
    | _, _ => none
  | .indexAddr t x i => match P.underlying t, opd x, opd i with
    | some (.array n e), some x, some i => (sizeT P e).map fun sz => .iaddra n sz x i
    | some (.slice e), some x, some i => (sizeT P e).map fun sz => .iaddrs sz x i
    | _, _, _ => none
  | .index t x i => match P.underlying t, opd x, opd i with
    | some (.array n e), some x, some i => match aggT P e, sizeT P e with
      | some b, some sz => some (.idxa b n sz x i)
      | _, _ => none
    | some .string, some x, some i => some (.idxs x i)
    | _, _, _ => none
  | .lookup t m k ok => match P.underlying t with
    | some (.map kt et) => match keyKind P kt, zeroT P et, opd m, opd k with
      | some kk, some z, some m, some k => some (.lookup kk z m k ok)
      | _, _, _, _ => none
    | _ => none
  | .mapUpdate t m k v | .insert t m k v => match P.underlying t with
    | some (.map kt _) => match keyKind P kt, opd m, opd k, opd v with
      | some kk, some m, some k, some v => some (.mput kk m k v)
      | _, _, _, _ => none
    | _ => none
  | .typeAssert x _ asserted ok => match P.underlying asserted, opd x with
    | some (.interface want), some x => if nilZero P asserted then some (.tai x ok (typesWith P want)) else none
    | some _, some x => match zeroT P asserted with
      | some z => some (.ta z x asserted ok)
      | none => none
    | _, _ => none
  | .range t x => match P.underlying t with
    | some .string => (opd x).map .rng
    | _ => none
  | .next x true => (opd x).map .nxt
  | .extract x i => (opd x).map fun x => .ext x i
  | .call c => prepCall P o.type c
  | .panic x => (opd x).map .panic
  | _ => none

def guardOf (ops : Array Oper) (o : Oper) : Option (Option (Nat × Bool)) :=
  match o.guard with
  | none => some none
  | some (j, want) => match (ops[j]?).bind (·.dst) with
    | some t => some (some (t, want))
    | none => none

def prepOper (rows : Bool) (ops : Array Oper) (o : Oper) : Option Ins :=
  match prepOp P rows o, guardOf ops o with
  | some i, some g => some { g, dst := o.dst, i }
  | _, _ => none

def prepOps (rows : Bool) (ops : Array Oper) : List Oper → Option (List Ins)
  | [] => some []
  | o :: os => match prepOper P rows ops o, prepOps rows ops os with
    | some x, some xs => some (x :: xs)
    | _, _ => none

def edges (o : Oper) : List Nat := (o.after.toList.filter (Region.binds .any)).map (·.on)

/-- What operations wait for, as bits; the masks of the operations ahead, the last one first. -/
def maskE (ms : List Nat) (n : Nat) : List Nat → Nat
  | [] => 0
  | e :: es => Nat.lor (Nat.lor (Nat.shiftLeft 1 e) (if e < n then ms.getD (n - 1 - e) 0 else 0)) (maskE ms n es)

def masks (ops : Array Oper) : Nat → List Nat
  | 0 => []
  | n + 1 => maskE (masks ops n) n (match ops[n]? with | some o => edges o | none => []) :: masks ops n

/-- All that an operation waits for, directly or through others. -/
def anc (ops : Array Oper) (_ : Nat) (i : Nat) : List Nat := (List.range i).filter fun a => Nat.testBit ((masks ops (i + 1)).headD 0) a

/-- An order that a mode's edges allow. -/
def ordGo (md : Region.Mode) (ops : Array Oper) : List Nat → List Nat → Bool
  | _, [] => true
  | pre, i :: rest => (match ops[i]? with | some o => o.after.toList.all (fun e => !Region.binds md e || pre.contains e.on) | none => false) && ordGo md ops (i :: pre) rest

def ordOk (md : Region.Mode) (ops : Array Oper) (ord : List Nat) : Bool := (List.range ops.size).all (fun i => ord.contains i) && ordGo md ops [] ord

/-- With each operation of a region: those ahead of it that it does not wait for, where both have to do with the state. -/
def untied (ops : Array Oper) (xs : List Ins) : Option (List (Ins × List Nat)) :=
  let n := xs.length
  let before := (List.range n).map fun i => (anc ops 64 i).eraseDups
  let ordered (i j : Nat) : Bool := (before.getD j []).contains i
  let ys := xs.zipIdx
  if (ordOk .any ops (List.range ops.size) && ordOk .text ops (List.range ops.size) && ordOk .gc ops (Region.linearise .gc ops 0)) && (List.range n).all (fun i => match ops[i]? with | some o => (edges o).all (· < i) | none => false) &&
     ys.all (fun (x, i) => ys.all fun (y, j) => i ≥ j || ordered i j || apartI x y)
  then some (ys.map fun (y, j) => (y, if y.i.cls = 0 then [] else (ys.filter fun (x, i) => i < j && x.i.cls ≥ 1 && !ordered i j).map (·.2)))
  else none

def maxT : List Nat → Nat
  | [] => 0
  | a :: as => Nat.max (a + 1) (maxT as)

def prepCode (rows : Bool) (nt : Nat) : Code → Option PC
  | .skip | .label _ => some .skip
  | .seq a b => match prepCode rows nt a, prepCode rows nt b with
    | some a, some b => some (.seq a b)
    | _, _ => none
  | .cond c a b => match opd c, prepCode rows nt a, prepCode rows nt b with
    | some c, some a, some b => some (.cond c a b)
    | _, _, _ => none
  | .block id b => (prepCode rows nt b).map (.block id)
  | .loop b => (prepCode rows nt b).map .loop
  | .exit id => some (.exit id)
  | .ret => some .ret
  | .region _ ops draw => match prepOps P rows ops ops.toList with
    | some xs =>
      if xs.all (fun x => match x.dst with | some d => d < nt | none => true) then
        if draw then (untied ops xs).map .dreg else some (.reg xs)
      else none
    | none => none
  | .rangeFunc g ps assign body => match opd g, prepCode rows nt assign, prepCode rows nt body with
    | some g, some a, some b => if ps.toList.all (· < nt) then some (.rfun g ps.toList a b) else none
    | _, _, _ => none
  | .scope _ | .goto _ | .refuse _ => none

def prepRes : List ResultVar → Option (List RV)
  | [] => some []
  | .tmp t :: r => (prepRes r).map (.t t :: ·)
  | .cell a t :: r => match aggT P t, sizeT P t, prepRes r with
    | some b, some n, some rs => some (.cell a b n :: rs)
    | _, _, _ => none

/-- A function of the program, as compact code. rows: its literals of slices are rows that may be written. -/
def prepF (rows : Bool) (fn : Func) : Option PF :=
  match fn.body with
  | some c => match prepCode P rows fn.ntmps c, prepRes P fn.results.toList with
    | some b, some rs => if (fn.name != "runtime.NumGoroutine") then some { ntmps := fn.ntmps, results := rs, body := b } else none
    | _, _ => none
  | none => none

end Go.Den

/- Den: how abstract values and states stand to those of the model. -/
namespace Go.Den
open Go Go.RowKit

/-- The ghost: cells that are never written again; where the abstract objects lie. -/
structure Gh where
  frz : Nat → Nat → Option Value
  n : Nat
  blk : Nat → Nat
  base : Nat → Nat
  ver : Nat → Nat
  lim : Nat → Nat
  sz : Nat → Nat
  pz : Nat → Option AObj := fun _ => none     -- objects that the model has not laid yet

/-- An object that the model has laid. -/
def Gh.on (G : Gh) (i : Nat) : Prop := i < G.n ∧ G.pz i = none

def leaf : Value → Bool
  | .agg _ => false
  | .tuple _ => false
  | _ => true

def Frz (G : Gh) (b o : Nat) (vs : List Value) : Prop := ∀ j v, vs[j]? = some v → G.frz b (o + j) = some v

def Leaves (vs : List Value) : Prop := ∀ v ∈ vs, leaf v = true

def fnRel (G : Gh) : Fn → Fn → Prop
  | .yield l, f => G.on l ∧ (∃ k, f = .yield k ∧ (G.ver l = 0 → k = G.blk l))
  | g, f => f = g

mutual
def VRel (G : Gh) : AV → Value → Prop
  | .bool b, v => v = .bool b
  | .int k n, v => v = .int k n
  | .str s, v => v = .string s
  | .agg cs, v => ∃ vs : Array Value, v = .agg vs ∧ LRel G cs vs.toList ∧ Leaves vs.toList
  | .tup cs, v => ∃ vs : Array Value, v = .tuple vs ∧ LRel G cs vs.toList
  | .nilp, v => v = .pointer none
  | .ptr id off, v => G.on id ∧ ∃ a, v = .pointer (some a) ∧ (G.ver id = 0 → a = ⟨G.blk id, off, none⟩)
  | .rptr id ver i off, v => G.on id ∧ ver ≤ G.ver id ∧ ∃ a, v = .pointer (some a) ∧ (G.ver id = ver → a = ⟨G.blk id, G.base id + i * G.sz id + off, none⟩)
  | .eptr cs off, v => ∃ b o vs, v = .pointer (some ⟨b, o + off, none⟩) ∧ Frz G b o vs ∧ Leaves vs ∧ LRel G cs vs
  | .glob g, v => v = .pointer (some ⟨g, 0, none⟩)
  | .nils, v => v = .slice none 0 0
  | .sl els clip, v => ∃ b o cap sz vs, v = .slice (some ⟨b, o, none⟩) els.length cap ∧ els.length ≤ cap ∧ (clip = true → cap = els.length) ∧ (∀ el ∈ els, el.length = sz) ∧ Frz G b o vs ∧ Leaves vs ∧ LLRel G els vs
  | .ref id ver sz off len clip, v => G.on id ∧ ver ≤ G.ver id ∧ ∃ a cap, v = .slice (some a) len cap ∧ (len ≤ cap ∧ a.spot = none) ∧ (clip = true → cap = len) ∧
      (G.ver id = ver → G.sz id = sz ∧ (0 < cap → a = ⟨G.blk id, G.base id + off * sz, none⟩) ∧ off * sz + cap * sz ≤ G.lim id)
  | .aref id _ off len, v => G.on id ∧ ∃ a cap, v = .slice (some a) len cap ∧ len ≤ cap ∧ (G.ver id = 0 → 0 < cap → a = ⟨G.blk id, off, none⟩)
  | .nilm, v => v = .map none
  | .mglob g, v => (∃ r, v = .map (some r)) ∧ G.frz g 0 = some v
  | .mp id, v => G.on id ∧ ∃ r, v = .map (some r) ∧ (G.ver id = 0 → r = G.blk id)
  | .fn f a b, v => ∃ (f' : Fn) (a' b' : Array Value), v = .func f' a' b' ∧ fnRel G f f' ∧ LRel G a a'.toList ∧ LRel G b b'.toList
  | .nilf, v => v = .nilFunc
  | .ifc t x, v => ∃ y, v = .iface t y ∧ VRel G x y
  | .nili, v => v = .nilIface
  | .junk, _ => False
def LRel (G : Gh) : List AV → List Value → Prop
  | [], vs => vs = []
  | a :: as, vs => ∃ v r, vs = v :: r ∧ VRel G a v ∧ LRel G as r
def LLRel (G : Gh) : List (List AV) → List Value → Prop
  | [], vs => vs = []
  | a :: as, vs => ∃ v r, vs = v ++ r ∧ LRel G a v ∧ LLRel G as r
end

/-- What a later ghost keeps of an earlier one; what was not laid may have been. -/
structure Gh.sub (G G' : Gh) : Prop where
  frz : ∀ b o v, G.frz b o = some v → G'.frz b o = some v
  n : G.n ≤ G'.n
  on : ∀ i, G.on i → G'.on i
  ver : ∀ i, G.on i → G.ver i ≤ G'.ver i
  same : ∀ i, G.on i → G'.ver i = G.ver i → G'.blk i = G.blk i ∧ G'.base i = G.base i ∧ G'.lim i = G.lim i ∧ G'.sz i = G.sz i

/-- What a later ghost keeps of an earlier one. -/
structure Gh.le (G G' : Gh) : Prop extends toSub : Gh.sub G G' where
  pz : ∀ i, i < G.n → G'.pz i = G.pz i

theorem Gh.le.mk' {G G' : Gh} (frz : ∀ b o v, G.frz b o = some v → G'.frz b o = some v) (n : G.n ≤ G'.n) (pz : ∀ i, i < G.n → G'.pz i = G.pz i) (ver : ∀ i, i < G.n → G.ver i ≤ G'.ver i)
    (same : ∀ i, i < G.n → G'.ver i = G.ver i → G'.blk i = G.blk i ∧ G'.base i = G.base i ∧ G'.lim i = G.lim i ∧ G'.sz i = G.sz i) : G.le G' :=
  { frz, n, pz, on := fun i h => ⟨Nat.lt_of_lt_of_le h.1 n, by rw [pz i h.1]; exact h.2⟩, ver := fun i h => ver i h.1, same := fun i h => same i h.1 }

theorem Gh.sub_refl (G : Gh) : G.sub G := ⟨fun _ _ _ h => h, Nat.le_refl _, fun _ h => h, fun _ _ => Nat.le_refl _, fun _ _ _ => ⟨rfl, rfl, rfl, rfl⟩⟩
theorem Gh.le_refl (G : Gh) : G.le G := { G.sub_refl with pz := fun _ _ => rfl }

theorem Gh.sub_trans {G₁ G₂ G₃ : Gh} (h : G₁.sub G₂) (k : G₂.sub G₃) : G₁.sub G₃ where
  frz b o v e := k.frz b o v (h.frz b o v e)
  n := Nat.le_trans h.n k.n
  on i hi := k.on i (h.on i hi)
  ver i hi := Nat.le_trans (h.ver i hi) (k.ver i (h.on i hi))
  same i hi e := by
    have a := h.ver i hi
    have b := k.ver i (h.on i hi)
    have e1 : G₂.ver i = G₁.ver i := by omega
    have e2 : G₃.ver i = G₂.ver i := by omega
    obtain ⟨a1, a2, a3, a4⟩ := h.same i hi e1
    obtain ⟨b1, b2, b3, b4⟩ := k.same i (h.on i hi) e2
    exact ⟨b1.trans a1, b2.trans a2, b3.trans a3, b4.trans a4⟩

theorem Gh.le_trans {G₁ G₂ G₃ : Gh} (h : G₁.le G₂) (k : G₂.le G₃) : G₁.le G₃ :=
  { Gh.sub_trans h.toSub k.toSub with pz := fun i hi => (k.pz i (Nat.lt_of_lt_of_le hi h.n)).trans (h.pz i hi) }

theorem Frz.monoS {G G' : Gh} (h : G.sub G') {b o : Nat} {vs : List Value} (f : Frz G b o vs) : Frz G' b o vs := fun j v e => h.frz _ _ _ (f j v e)

theorem fnRel.monoS {G G' : Gh} (h : G.sub G') {f g : Fn} (r : fnRel G f g) : fnRel G' f g := by
  cases f <;> simp only [fnRel] at * <;> try exact r
  obtain ⟨a, k, e, c⟩ := r
  refine ⟨h.on _ a, k, e, fun e0 => ?_⟩
  have hv := h.ver _ a
  rw [(h.same _ a (by omega)).1]
  exact c (by omega)

mutual
theorem VRel.monoS {G G' : Gh} (h : G.sub G') : ∀ (x : AV) (v : Value), VRel G x v → VRel G' x v
  | .bool _, _, r => by simpa [VRel] using r
  | .int _ _, _, r => by simpa [VRel] using r
  | .str _, _, r => by simpa [VRel] using r
  | .agg cs, _, r => by
    simp only [VRel] at *
    obtain ⟨vs, e, l, lf⟩ := r
    exact ⟨vs, e, LRel.monoS h cs _ l, lf⟩
  | .tup cs, _, r => by
    simp only [VRel] at *
    obtain ⟨vs, e, l⟩ := r
    exact ⟨vs, e, LRel.monoS h cs _ l⟩
  | .nilp, _, r => by simpa [VRel] using r
  | .ptr id off, _, r => by
    simp only [VRel] at *
    obtain ⟨a, x, e, c⟩ := r
    refine ⟨h.on _ a, x, e, fun e0 => ?_⟩
    have hv := h.ver id a
    rw [(h.same id a (by omega)).1]
    exact c (by omega)
  | .rptr id ver i off, _, r => by
    simp only [VRel] at *
    obtain ⟨a, b, x, e, c⟩ := r
    have hv := h.ver id a
    refine ⟨h.on _ a, by omega, x, e, fun e0 => ?_⟩
    obtain ⟨h1, h2, h3, h4⟩ := h.same id a (by omega)
    rw [h1, h2, h4]
    exact c (by omega)
  | .eptr cs off, _, r => by
    simp only [VRel] at *
    obtain ⟨b, o, vs, e, f, lf, l⟩ := r
    exact ⟨b, o, vs, e, f.monoS h, lf, LRel.monoS h cs _ l⟩
  | .glob _, _, r => by simpa [VRel] using r
  | .nils, _, r => by simpa [VRel] using r
  | .sl els clip, _, r => by
    simp only [VRel] at *
    obtain ⟨b, o, cap, sz, vs, e, c1, c2, c3, f, lf, l⟩ := r
    exact ⟨b, o, cap, sz, vs, e, c1, c2, c3, f.monoS h, lf, LLRel.monoS h els _ l⟩
  | .ref id ver sz off len clip, _, r => by
    simp only [VRel] at *
    obtain ⟨a, b, x, cap, e, c1, c2, c3⟩ := r
    have hv := h.ver id a
    refine ⟨h.on _ a, by omega, x, cap, e, c1, c2, fun e0 => ?_⟩
    obtain ⟨h1, h2, h3, h4⟩ := h.same id a (by omega)
    rw [h1, h2, h3, h4]
    exact c3 (by omega)
  | .aref id sz off len, _, r => by
    simp only [VRel] at *
    obtain ⟨a, x, cap, e, c1, c2⟩ := r
    have hv := h.ver id a
    refine ⟨h.on _ a, x, cap, e, c1, fun e0 h0 => ?_⟩
    rw [(h.same id a (by omega)).1]
    exact c2 (by omega) h0
  | .nilm, _, r => by simpa [VRel] using r
  | .mglob g, _, r => by
    simp only [VRel] at *
    exact ⟨r.1, h.frz _ _ _ r.2⟩
  | .mp id, _, r => by
    simp only [VRel] at *
    obtain ⟨a, x, e, c⟩ := r
    have hv := h.ver id a
    refine ⟨h.on _ a, x, e, fun e0 => ?_⟩
    rw [(h.same id a (by omega)).1]
    exact c (by omega)
  | .fn f a b, _, r => by
    simp only [VRel] at *
    obtain ⟨f', a', b', e, hf, ha, hb⟩ := r
    exact ⟨f', a', b', e, hf.monoS h, LRel.monoS h a _ ha, LRel.monoS h b _ hb⟩
  | .nilf, _, r => by simpa [VRel] using r
  | .ifc t x, _, r => by
    simp only [VRel] at *
    obtain ⟨y, e, l⟩ := r
    exact ⟨y, e, VRel.monoS h x _ l⟩
  | .nili, _, r => by simpa [VRel] using r
  | .junk, _, r => by simp [VRel] at r
theorem LRel.monoS {G G' : Gh} (h : G.sub G') : ∀ (xs : List AV) (vs : List Value), LRel G xs vs → LRel G' xs vs
  | [], _, r => by simpa [LRel] using r
  | a :: as, _, r => by
    simp only [LRel] at *
    obtain ⟨v, q, e, h1, h2⟩ := r
    exact ⟨v, q, e, VRel.monoS h a _ h1, LRel.monoS h as _ h2⟩
theorem LLRel.monoS {G G' : Gh} (h : G.sub G') : ∀ (xs : List (List AV)) (vs : List Value), LLRel G xs vs → LLRel G' xs vs
  | [], _, r => by simpa [LLRel] using r
  | a :: as, _, r => by
    simp only [LLRel] at *
    obtain ⟨v, q, e, h1, h2⟩ := r
    exact ⟨v, q, e, LRel.monoS h a _ h1, LLRel.monoS h as _ h2⟩
end


theorem Frz.mono {G G' : Gh} (h : G.le G') {b o : Nat} {vs : List Value} (f : Frz G b o vs) : Frz G' b o vs := f.monoS h.toSub
theorem fnRel.mono {G G' : Gh} (h : G.le G') {f g : Fn} (r : fnRel G f g) : fnRel G' f g := r.monoS h.toSub
theorem VRel.mono {G G' : Gh} (h : G.le G') (x : AV) (v : Value) (r : VRel G x v) : VRel G' x v := VRel.monoS h.toSub x v r
theorem LRel.mono {G G' : Gh} (h : G.le G') (xs : List AV) (vs : List Value) (r : LRel G xs vs) : LRel G' xs vs := LRel.monoS h.toSub xs vs r
theorem LLRel.mono {G G' : Gh} (h : G.le G') (xs : List (List AV)) (vs : List Value) (r : LLRel G xs vs) : LLRel G' xs vs := LLRel.monoS h.toSub xs vs r

theorem LRel.length {G : Gh} : ∀ {xs : List AV} {vs : List Value}, LRel G xs vs → vs.length = xs.length
  | [], _, r => by simp only [LRel] at r; simp [r]
  | _ :: as, _, r => by
    simp only [LRel] at r
    obtain ⟨v, q, rfl, _, h2⟩ := r
    simp [LRel.length h2]

theorem LRel.get {G : Gh} : ∀ {xs : List AV} {vs : List Value}, LRel G xs vs → ∀ (j : Nat) (x : AV), xs[j]? = some x → ∃ v, vs[j]? = some v ∧ VRel G x v
  | [], _, _, _, _, e => by simp at e
  | a :: as, _, r, j, x, e => by
    simp only [LRel] at r
    obtain ⟨v, q, rfl, h1, h2⟩ := r
    cases j with
    | zero => simp at e; subst e; exact ⟨v, by simp, h1⟩
    | succ j => simp at e; obtain ⟨u, hu, hr⟩ := LRel.get h2 j x e; exact ⟨u, by simpa using hu, hr⟩

theorem LRel.of_get {G : Gh} : ∀ {xs : List AV} {vs : List Value}, vs.length = xs.length → (∀ (j : Nat) (x : AV) (v : Value), xs[j]? = some x → vs[j]? = some v → VRel G x v) → LRel G xs vs
  | [], vs, hl, _ => by cases vs <;> simp_all [LRel]
  | a :: as, vs, hl, h => by
    cases vs with
    | nil => simp at hl
    | cons v vs =>
      refine ⟨v, vs, rfl, h 0 a v (by simp) (by simp), LRel.of_get (by simpa using hl) fun j x u hx hu => h (j + 1) x u (by simpa using hx) (by simpa using hu)⟩

theorem LRel.append {G : Gh} : ∀ {xs ys : List AV} {vs us : List Value}, LRel G xs vs → LRel G ys us → LRel G (xs ++ ys) (vs ++ us)
  | [], _, _, _, r, k => by simp only [LRel] at r; subst r; simpa using k
  | a :: as, _, _, _, r, k => by
    simp only [LRel] at r
    obtain ⟨v, q, rfl, h1, h2⟩ := r
    exact ⟨v, q ++ _, rfl, h1, LRel.append h2 k⟩

theorem LRel.split {G : Gh} : ∀ {xs ys : List AV} {vs : List Value}, LRel G (xs ++ ys) vs → ∃ v1 v2, vs = v1 ++ v2 ∧ LRel G xs v1 ∧ LRel G ys v2
  | [], _, vs, r => ⟨[], vs, rfl, by simp [LRel], r⟩
  | a :: as, _, _, r => by
    simp only [List.cons_append, LRel] at r
    obtain ⟨v, q, rfl, h1, h2⟩ := r
    obtain ⟨v1, v2, rfl, k1, k2⟩ := LRel.split h2
    exact ⟨v :: v1, v2, rfl, ⟨v, v1, rfl, h1, k1⟩, k2⟩

theorem LRel.take {G : Gh} {xs : List AV} {vs : List Value} (r : LRel G xs vs) (n : Nat) : LRel G (xs.take n) (vs.take n) :=
  .of_get (by simp [r.length]) fun j x v hx hv => by
    rw [List.getElem?_take] at hx hv
    split at hx
    · rename_i hj
      simp only [hj, if_true] at hv
      obtain ⟨u, hu, hr⟩ := r.get j x hx
      rw [hv] at hu; cases hu; exact hr
    · cases hx

theorem LRel.drop {G : Gh} {xs : List AV} {vs : List Value} (r : LRel G xs vs) (n : Nat) : LRel G (xs.drop n) (vs.drop n) :=
  .of_get (by simp [r.length]) fun j x v hx hv => by
    rw [List.getElem?_drop] at hx hv
    obtain ⟨u, hu, hr⟩ := r.get _ x hx
    rw [hv] at hu; cases hu; exact hr

theorem LLRel.iff {G : Gh} : ∀ {els : List (List AV)} {vs : List Value}, LLRel G els vs ↔ LRel G els.flatten vs
  | [], _ => by simp [LLRel, LRel]
  | a :: as, vs => by
    simp only [LLRel, List.flatten_cons]
    constructor
    · rintro ⟨v, r, rfl, h1, h2⟩
      exact h1.append (LLRel.iff.1 h2)
    · intro h
      obtain ⟨v1, v2, rfl, k1, k2⟩ := LRel.split h
      exact ⟨v1, v2, rfl, k1, LLRel.iff.2 k2⟩

theorem LRel.single {G : Gh} {x : AV} {v : Value} : LRel G [x] [v] ↔ VRel G x v := by simp [LRel]

theorem Leaves.append {a b : List Value} (h : Leaves a) (k : Leaves b) : Leaves (a ++ b) := fun v hv => (List.mem_append.1 hv).elim (h v) (k v)
theorem Leaves.take {a : List Value} (h : Leaves a) (n : Nat) : Leaves (a.take n) := fun v hv => h v (List.mem_of_mem_take hv)
theorem Leaves.drop {a : List Value} (h : Leaves a) (n : Nat) : Leaves (a.drop n) := fun v hv => h v (List.mem_of_mem_drop hv)
theorem Leaves.get {a : List Value} (h : Leaves a) {j : Nat} {v : Value} (e : a[j]? = some v) : leaf v = true := h v (List.mem_of_getElem? e)

/-- What a value has in memory. -/
theorem VRel.cells {G : Gh} {x : AV} {v : Value} (r : VRel G x v) (h : x.isTup = false) : LRel G x.cells v.cells.toList ∧ Leaves v.cells.toList := by
  cases x <;> simp [AV.isTup] at h <;> simp only [AV.cells]
  case agg cs =>
    simp only [VRel] at r
    obtain ⟨vs, rfl, l, lf⟩ := r
    exact ⟨l, lf⟩
  all_goals
    have r' := r
    simp only [VRel] at r
    first
      | (obtain rfl := r; exact ⟨LRel.single.2 r', by simp [Leaves, Value.cells, leaf]⟩)
      | (obtain ⟨_, _, rfl, _⟩ := r; exact ⟨LRel.single.2 r', by simp [Leaves, Value.cells, leaf]⟩)
      | (obtain ⟨_, rfl, _⟩ := r; exact ⟨LRel.single.2 r', by simp [Leaves, Value.cells, leaf]⟩)
      | (obtain ⟨_, _, _, rfl, _⟩ := r; exact ⟨LRel.single.2 r', by simp [Leaves, Value.cells, leaf]⟩)
      | (obtain ⟨_, _, _, _, rfl, _⟩ := r; exact ⟨LRel.single.2 r', by simp [Leaves, Value.cells, leaf]⟩)
      | (obtain ⟨_, _, _, _, _, rfl, _⟩ := r; exact ⟨LRel.single.2 r', by simp [Leaves, Value.cells, leaf]⟩)
      | (obtain ⟨⟨_, rfl⟩, _⟩ := r; exact ⟨LRel.single.2 r', by simp [Leaves, Value.cells, leaf]⟩)

end Go.Den

/- Den: states and worlds. -/
namespace Go.Den
open Go Go.RowKit

mutual
theorem VRel.refs {G : Gh} : ∀ (x : AV) (v : Value), VRel G x v → x.refs ≤ G.n
  | .bool _, _, _ | .int _ _, _, _ | .str _, _, _ | .nilp, _, _ | .glob _, _, _ | .nils, _, _ | .nilm, _, _ | .mglob _, _, _ | .nilf, _, _ | .nili, _, _ | .junk, _, _ => by simp [AV.refs]
  | .agg cs, _, r => by simp only [VRel] at r; obtain ⟨vs, _, l, _⟩ := r; simp only [AV.refs]; exact LRel.refs cs _ l
  | .tup cs, _, r => by simp only [VRel] at r; obtain ⟨vs, _, l⟩ := r; simp only [AV.refs]; exact LRel.refs cs _ l
  | .ptr id off, _, r => by simp only [VRel] at r; have := r.1.1; simp only [AV.refs]; omega
  | .rptr id ver i off, _, r => by simp only [VRel] at r; have := r.1.1; simp only [AV.refs]; omega
  | .ref id ver sz off len clip, _, r => by simp only [VRel] at r; have := r.1.1; simp only [AV.refs]; omega
  | .aref id sz off len, _, r => by simp only [VRel] at r; have := r.1.1; simp only [AV.refs]; omega
  | .mp id, _, r => by simp only [VRel] at r; have := r.1.1; simp only [AV.refs]; omega
  | .eptr cs off, _, r => by simp only [VRel] at r; obtain ⟨b, o, vs, _, _, _, l⟩ := r; simp only [AV.refs]; exact LRel.refs cs _ l
  | .sl els clip, _, r => by simp only [VRel] at r; obtain ⟨b, o, cap, sz, vs, _, _, _, _, _, _, l⟩ := r; simp only [AV.refs]; exact LLRel.refs els _ l
  | .fn f a b, _, r => by
    simp only [VRel] at r
    obtain ⟨f', a', b', _, hf, ha, hb⟩ := r
    have h1 := LRel.refs a _ ha
    have h2 := LRel.refs b _ hb
    simp only [AV.refs]
    cases f <;> simp only [fnRel] at hf <;> simp only <;> first | omega | (have := hf.1.1; omega)
  | .ifc t x, _, r => by simp only [VRel] at r; obtain ⟨y, _, l⟩ := r; simp only [AV.refs]; exact VRel.refs x _ l
theorem LRel.refs {G : Gh} : ∀ (xs : List AV) (vs : List Value), LRel G xs vs → refsL xs ≤ G.n
  | [], _, _ => by simp [refsL]
  | a :: as, _, r => by
    simp only [LRel] at r
    obtain ⟨v, q, _, h1, h2⟩ := r
    have := VRel.refs a _ h1
    have := LRel.refs as _ h2
    simp only [refsL]; omega
theorem LLRel.refs {G : Gh} : ∀ (xs : List (List AV)) (vs : List Value), LLRel G xs vs → refsLL xs ≤ G.n
  | [], _, _ => by simp [refsLL]
  | a :: as, _, r => by
    simp only [LLRel] at r
    obtain ⟨v, q, _, h1, h2⟩ := r
    have := LRel.refs a _ h1
    have := LLRel.refs as _ h2
    simp only [refsLL]; omega
end

/-- Two ghosts that agree on the first m objects. -/
structure Gh.agree (m : Nat) (G G' : Gh) : Prop where
  frz : ∀ b o v, G.frz b o = some v → G'.frz b o = some v
  n : m ≤ G'.n
  pz : ∀ i, i < m → G'.pz i = G.pz i
  ver : ∀ i, i < m → G'.ver i = G.ver i
  blk : ∀ i, i < m → G'.blk i = G.blk i
  base : ∀ i, i < m → G'.base i = G.base i
  lim : ∀ i, i < m → G'.lim i = G.lim i
  sz : ∀ i, i < m → G'.sz i = G.sz i

mutual
theorem VRel.agree {m : Nat} {G G' : Gh} (h : G.agree m G') : ∀ (x : AV) (v : Value), VRel G x v → x.refs ≤ m → VRel G' x v
  | .bool _, _, r, _ | .int _ _, _, r, _ | .str _, _, r, _ | .nilp, _, r, _ | .glob _, _, r, _ | .nils, _, r, _ | .nilm, _, r, _ | .nilf, _, r, _ | .nili, _, r, _ => by simpa [VRel] using r
  | .junk, _, r, _ => by simp [VRel] at r
  | .mglob g, _, r, _ => by
    simp only [VRel] at *
    exact ⟨r.1, h.frz _ _ _ r.2⟩
  | .agg cs, _, r, hm => by
    simp only [VRel, AV.refs] at *
    obtain ⟨vs, e, l, lf⟩ := r
    exact ⟨vs, e, LRel.agree h cs _ l hm, lf⟩
  | .tup cs, _, r, hm => by
    simp only [VRel, AV.refs] at *
    obtain ⟨vs, e, l⟩ := r
    exact ⟨vs, e, LRel.agree h cs _ l hm⟩
  | .ptr id off, _, r, hm => by
    simp only [VRel, AV.refs] at *
    rw [h.ver id (by omega), h.blk id (by omega)]
    exact ⟨⟨Nat.lt_of_lt_of_le (by omega) h.n, by rw [h.pz id (by omega)]; exact r.1.2⟩, r.2⟩
  | .rptr id ver i off, _, r, hm => by
    simp only [VRel, AV.refs] at *
    rw [h.ver id (by omega), h.blk id (by omega), h.base id (by omega), h.sz id (by omega)]
    exact ⟨⟨Nat.lt_of_lt_of_le (by omega) h.n, by rw [h.pz id (by omega)]; exact r.1.2⟩, r.2⟩
  | .eptr cs off, _, r, hm => by
    simp only [VRel, AV.refs] at *
    obtain ⟨b, o, vs, e, f, lf, l⟩ := r
    exact ⟨b, o, vs, e, fun j v hj => h.frz _ _ _ (f j v hj), lf, LRel.agree h cs _ l hm⟩
  | .sl els clip, _, r, hm => by
    simp only [VRel, AV.refs] at *
    obtain ⟨b, o, cap, sz, vs, e, c1, c2, c3, f, lf, l⟩ := r
    exact ⟨b, o, cap, sz, vs, e, c1, c2, c3, fun j v hj => h.frz _ _ _ (f j v hj), lf, LLRel.agree h els _ l hm⟩
  | .ref id ver sz off len clip, _, r, hm => by
    simp only [VRel, AV.refs] at *
    rw [h.ver id (by omega), h.blk id (by omega), h.base id (by omega), h.sz id (by omega), h.lim id (by omega)]
    exact ⟨⟨Nat.lt_of_lt_of_le (by omega) h.n, by rw [h.pz id (by omega)]; exact r.1.2⟩, r.2⟩
  | .aref id sz off len, _, r, hm => by
    simp only [VRel, AV.refs] at *
    rw [h.ver id (by omega), h.blk id (by omega)]
    exact ⟨⟨Nat.lt_of_lt_of_le (by omega) h.n, by rw [h.pz id (by omega)]; exact r.1.2⟩, r.2⟩
  | .mp id, _, r, hm => by
    simp only [VRel, AV.refs] at *
    rw [h.ver id (by omega), h.blk id (by omega)]
    exact ⟨⟨Nat.lt_of_lt_of_le (by omega) h.n, by rw [h.pz id (by omega)]; exact r.1.2⟩, r.2⟩
  | .fn f a b, _, r, hm => by
    simp only [VRel, AV.refs] at *
    obtain ⟨f', a', b', e, hf, ha, hb⟩ := r
    refine ⟨f', a', b', e, ?_, LRel.agree h a _ ha (by omega), LRel.agree h b _ hb (by omega)⟩
    cases f <;> simp only [fnRel] at * <;> try exact hf
    rename_i l
    rw [h.ver l (by omega), h.blk l (by omega)]
    exact ⟨⟨Nat.lt_of_lt_of_le (by omega) h.n, by rw [h.pz l (by omega)]; exact hf.1.2⟩, hf.2⟩
  | .ifc t x, _, r, hm => by
    simp only [VRel, AV.refs] at *
    obtain ⟨y, e, l⟩ := r
    exact ⟨y, e, VRel.agree h x _ l hm⟩
theorem LRel.agree {m : Nat} {G G' : Gh} (h : G.agree m G') : ∀ (xs : List AV) (vs : List Value), LRel G xs vs → refsL xs ≤ m → LRel G' xs vs
  | [], _, r, _ => by simpa [LRel] using r
  | a :: as, _, r, hm => by
    simp only [LRel, refsL] at *
    obtain ⟨v, q, e, h1, h2⟩ := r
    exact ⟨v, q, e, VRel.agree h a _ h1 (by omega), LRel.agree h as _ h2 (by omega)⟩
theorem LLRel.agree {m : Nat} {G G' : Gh} (h : G.agree m G') : ∀ (xs : List (List AV)) (vs : List Value), LLRel G xs vs → refsLL xs ≤ m → LLRel G' xs vs
  | [], _, r, _ => by simpa [LLRel] using r
  | a :: as, _, r, hm => by
    simp only [LLRel, refsLL] at *
    obtain ⟨v, q, e, h1, h2⟩ := r
    exact ⟨v, q, e, LRel.agree h a _ h1 (by omega), LLRel.agree h as _ h2 (by omega)⟩
end

/-- All that an object refers to comes before n. -/
def AObj.le (n : Nat) : AObj → Prop
  | .box cs _ => refsL cs ≤ n
  | .row _ _ _ els => refsLL els ≤ n
  | .map es => ∀ p ∈ es, p.2.refs ≤ n
  | .loop _ _ _ env _ _ _ => ∀ t, (env t).refs ≤ n
  | _ => True

theorem AObj.le.mono {n n' : Nat} (h : n ≤ n') : ∀ {o : AObj}, o.le n → o.le n'
  | .box _ _, r => Nat.le_trans r h
  | .row _ _ _ _, r => Nat.le_trans r h
  | .map _, r => fun p hp => Nat.le_trans (r p hp) h
  | .loop _ _ _ _ _ _ _, r => fun t => Nat.le_trans (r t) h
  | .siter _ _, _ | .dfr, _ | .dead, _ => trivial

def jumpRel : Option PC → Option Code → Prop
  | none, c => c = none
  | some .ret, c => c = some .ret
  | some (.exit id), c => c = some (.exit id)
  | _, _ => False

/-- The temporaries of an activation. -/
structure ERel (G : Gh) (nt : Nat) (e : Env) (tmps : Array Value) : Prop where
  size : tmps.size = nt
  get : ∀ t v, tmps[t]? = some v → VRel G (e t) v
  out : ∀ t, nt ≤ t → e t = .undef

theorem ERel.refs {G : Gh} {nt : Nat} {e : Env} {tmps : Array Value} (h : ERel G nt e tmps) (t : Nat) : (e t).refs ≤ G.n := by
  by_cases ht : t < nt
  · have : t < tmps.size := by rw [h.size]; exact ht
    exact VRel.refs _ _ (h.get t tmps[t] (by simp [this]))
  · rw [h.out t (by omega)]; simp [AV.refs, refsL]

theorem ERel.monoS {G G' : Gh} (h : G.sub G') {nt : Nat} {e : Env} {tmps : Array Value} (r : ERel G nt e tmps) : ERel G' nt e tmps :=
  ⟨r.size, fun t v ht => (r.get t v ht).monoS h, r.out⟩
theorem ERel.mono {G G' : Gh} (h : G.le G') {nt : Nat} {e : Env} {tmps : Array Value} (r : ERel G nt e tmps) : ERel G' nt e tmps := r.monoS h.toSub

theorem ERel.agree {m : Nat} {G G' : Gh} (h : G.agree m G') {nt : Nat} {e : Env} {tmps : Array Value} (r : ERel G nt e tmps) (hm : ∀ t, (e t).refs ≤ m) : ERel G' nt e tmps :=
  ⟨r.size, fun t v ht => (r.get t v ht).agree h _ _ (hm t), r.out⟩

/-- Entries of a map: keys are the same, values stand to one another. -/
def MRel (G : Gh) : List (AV × AV) → List MapEntry → Prop
  | [], ms => ms = []
  | (k, v) :: es, ms => ∃ m r, ms = m :: r ∧ isKey k = true ∧ VRel G k m.key ∧ VRel G v m.val ∧ MRel G es r

theorem MRel.monoS {G G' : Gh} (h : G.sub G') : ∀ {es : List (AV × AV)} {ms : List MapEntry}, MRel G es ms → MRel G' es ms
  | [], _, r => by simpa [MRel] using r
  | (k, v) :: es, _, r => by
    simp only [MRel] at *
    obtain ⟨m, q, e, h0, h1, h2, h3⟩ := r
    exact ⟨m, q, e, h0, h1.monoS h, h2.monoS h, h3.monoS h⟩

theorem MRel.mono {G G' : Gh} (h : G.le G') {es : List (AV × AV)} {ms : List MapEntry} (r : MRel G es ms) : MRel G' es ms := r.monoS h.toSub

theorem key_refs {k : AV} (h : isKey k = true) : k.refs = 0 := by cases k <;> simp [isKey] at h <;> simp [AV.refs]

theorem MRel.agree {m : Nat} {G G' : Gh} (h : G.agree m G') : ∀ {es : List (AV × AV)} {ms : List MapEntry}, MRel G es ms → (∀ p ∈ es, p.2.refs ≤ m) → MRel G' es ms
  | [], _, r, _ => by simpa [MRel] using r
  | (k, v) :: es, _, r, hm => by
    simp only [MRel] at *
    obtain ⟨e, q, he, h0, h1, h2, h3⟩ := r
    exact ⟨e, q, he, h0, h1.agree h _ _ (by simp [key_refs h0]), h2.agree h _ _ (hm (k, v) (by simp)), h3.agree h fun p hp => hm p (by simp [hp])⟩

theorem VRel.pz_ptr {G : Gh} {id off : Nat} {v : Value} (r : VRel G (.ptr id off) v) : G.pz id = none := by simp only [VRel] at r; exact r.1.2
theorem VRel.pz_rptr {G : Gh} {id ver i off : Nat} {v : Value} (r : VRel G (.rptr id ver i off) v) : G.pz id = none := by simp only [VRel] at r; exact r.1.2
theorem VRel.pz_ref {G : Gh} {id ver sz off len : Nat} {c : Bool} {v : Value} (r : VRel G (.ref id ver sz off len c) v) : G.pz id = none := by simp only [VRel] at r; exact r.1.2
theorem VRel.pz_aref {G : Gh} {id sz off len : Nat} {v : Value} (r : VRel G (.aref id sz off len) v) : G.pz id = none := by simp only [VRel] at r; exact r.1.2
theorem VRel.pz_mp {G : Gh} {id : Nat} {v : Value} (r : VRel G (.mp id) v) : G.pz id = none := by simp only [VRel] at r; exact r.1.2

variable (P : Program)

/-- An object lies in the world. -/
def ORel (G : Gh) (id : Nat) (w : World) : AObj → Prop
  | .box cs tg => G.ver id = 0 ∧ ∃ (c : Array Value) (ty : TypeId), w.heap[G.blk id]? = some (.cells c ty (0, 0)) ∧ LRel G cs c.toList ∧ Leaves c.toList ∧ ∀ t, tg = some t → ty = t
  | .row ver sz ty els => G.ver id = ver ∧ G.sz id = sz ∧ (∀ el ∈ els, el.length = sz) ∧ ∃ (c : Array Value) (pre vs post : List Value), w.heap[G.blk id]? = some (.cells c ty (0, 0)) ∧
      c.toList = pre ++ (vs ++ post) ∧ pre.length = G.base id ∧ c.size = G.base id + G.lim id ∧ LLRel G els vs ∧ Leaves vs
  | .map es => G.ver id = 0 ∧ ∃ ms clock, w.heap[G.blk id]? = some (.map ms clock) ∧ MRel G es ms.toList
  | .loop st pend fn env ps as bd => G.ver id = 0 ∧ ∃ L : Loop, w.heap[G.blk id]? = some (.loop L) ∧ L.state = st ∧ jumpRel pend L.pending ∧ True ∧ ERel G L.tmps.size env L.tmps ∧ L.params.toList = ps ∧
      ps.all (· < L.tmps.size) = true ∧ ∃ rows, prepCode P rows L.tmps.size L.assign = some as ∧ prepCode P rows L.tmps.size L.body = some bd
  | .siter s pos => G.ver id = 0 ∧ w.heap[G.blk id]? = some (.stringIter s pos)
  | .dfr => G.ver id = 0 ∧ w.heap[G.blk id]? = some (.deferred (some []))
  | .dead => True

structure WRel (B : Nat) (w₀ : World) (G : Gh) (σ : AS) (w : World) : Prop where
  len : G.n = σ.heap.length
  frz : ∀ b o v, G.frz b o = some v → w.cell? ⟨b, o, none⟩ = some v
  obj : ∀ (id : Nat) (o : AObj), σ.heap[id]? = some o → G.pz id = none → ORel P G id w o
  inj : ∀ i j, G.on i → G.on j → G.blk i = G.blk j → i = j
  sep : ∀ i, G.on i → ∀ o, G.frz (G.blk i) o = none
  low : ∀ i, G.on i → B ≤ G.blk i ∧ G.blk i < w.heap.size
  bel : Below B w₀ w
  hB : B ≤ w.heap.size
  pob : ∀ id o, id < G.n → G.pz id = some o → σ.heap[id]? = some o ∧ ∃ z tg, o = .box z tg ∧ refsL z = 0
  old : ∀ b o v, b < B → w₀.cell? ⟨b, o, none⟩ = some v → G.frz b o = some v

theorem WRel.frzLt {B : Nat} {w₀ : World} {G : Gh} {σ : AS} {w : World} (h : WRel P B w₀ G σ w) {b o : Nat} {v : Value} (e : G.frz b o = some v) : b < w.heap.size := by
  have := h.frz b o v e
  simp only [World.cell?] at this
  split at this
  · rename_i hh
    exact (Array.getElem?_eq_some_iff.1 hh).1
  · cases this

variable {P}

theorem MRel.refs {G : Gh} : ∀ {es : List (AV × AV)} {ms : List MapEntry}, MRel G es ms → ∀ p ∈ es, p.2.refs ≤ G.n
  | [], _, _, _, hp => by cases hp
  | (k, v) :: es, _, r, p, hp => by
    simp only [MRel] at r
    obtain ⟨m, q, _, _, _, h2, h3⟩ := r
    rcases List.mem_cons.1 hp with rfl | hp
    · exact VRel.refs _ _ h2
    · exact MRel.refs h3 p hp

theorem ORel.le {G : Gh} {id : Nat} {w : World} : ∀ {o : AObj}, ORel P G id w o → o.le G.n
  | .box _ _, r => by obtain ⟨_, c, ty, _, l, _⟩ := r; exact LRel.refs _ _ l
  | .row _ _ _ _, r => by obtain ⟨_, _, _, c, pre, vs, post, _, _, _, _, l, _⟩ := r; exact LLRel.refs _ _ l
  | .map es, r => by obtain ⟨_, ms, clock, _, l⟩ := r; exact l.refs
  | .loop _ _ _ _ _ _ _, r => by obtain ⟨_, L, _, _, _, _, he, _⟩ := r; exact fun t => he.refs t
  | .siter _ _, _ | .dfr, _ | .dead, _ => trivial

theorem WRel.leObj {B : Nat} {w₀ : World} {G : Gh} {σ : AS} {w : World} (h : WRel P B w₀ G σ w) {id : Nat} {o : AObj} (e : σ.heap[id]? = some o) : o.le G.n := by
  cases hz : G.pz id with
  | none => exact (h.obj id o e hz).le
  | some o' =>
    obtain ⟨q1, z, tg, rfl, q2⟩ := h.pob id o' (by rw [h.len]; exact (List.getElem?_eq_some_iff.1 e).1) hz
    rw [e] at q1
    cases q1
    simp only [AObj.le, q2]; omega

/-- What is said of an object hangs on its block, and on a ghost that goes on. -/
theorem ORel.monoS {G G' : Gh} (h : G.sub G') {id : Nat} (hi : G.on id) (hv : G'.ver id = G.ver id) {w w' : World} (hw : w'.heap[G.blk id]? = w.heap[G.blk id]?) : ∀ {o : AObj}, ORel P G id w o → ORel P G' id w' o := by
  obtain ⟨h1, h2, h3, h4⟩ := h.same id hi hv
  intro o r
  cases o with
  | box cs tg =>
    obtain ⟨e0, c, ty, e, l, lf⟩ := r
    exact ⟨by omega, c, ty, by rw [h1, hw]; exact e, l.monoS h, lf⟩
  | row ver sz ty els =>
    obtain ⟨e0, e1, hu, c, pre, vs, post, e, e2, e3, e4, l, lf⟩ := r
    exact ⟨by omega, by omega, hu, c, pre, vs, post, by rw [h1, hw]; exact e, e2, by omega, by omega, l.monoS h, lf⟩
  | map es =>
    obtain ⟨e0, ms, clock, e, l⟩ := r
    exact ⟨by omega, ms, clock, by rw [h1, hw]; exact e, l.monoS h⟩
  | loop st pend fn env ps as bd =>
    obtain ⟨e0, L, e, a1, a2, a3, a4, a5⟩ := r
    exact ⟨by omega, L, by rw [h1, hw]; exact e, a1, a2, a3, a4.monoS h, a5⟩
  | siter s pos => exact ⟨by rw [hv]; exact r.1, by rw [h1, hw]; exact r.2⟩
  | dfr => exact ⟨by rw [hv]; exact r.1, by rw [h1, hw]; exact r.2⟩
  | dead => trivial

theorem ORel.mono {G G' : Gh} (h : G.le G') {id : Nat} (hi : G.on id) (hv : G'.ver id = G.ver id) {w w' : World} (hw : w'.heap[G.blk id]? = w.heap[G.blk id]?) {o : AObj} (r : ORel P G id w o) : ORel P G' id w' o := r.monoS h.toSub hi hv hw

theorem ORel.agree {m : Nat} {G G' : Gh} (h : G.agree m G') {id : Nat} (hi : id < m) {w w' : World} (hw : w'.heap[G.blk id]? = w.heap[G.blk id]?) : ∀ {o : AObj}, ORel P G id w o → o.le m → ORel P G' id w' o := by
  have h1 := h.blk id hi
  have h2 := h.base id hi
  have h3 := h.lim id hi
  have h4 := h.sz id hi
  have hv := h.ver id hi
  intro o r hm
  cases o with
  | box cs tg =>
    obtain ⟨e0, c, ty, e, l, lf⟩ := r
    exact ⟨by omega, c, ty, by rw [h1, hw]; exact e, LRel.agree h _ _ l hm, lf⟩
  | row ver sz ty els =>
    obtain ⟨e0, e1, hu, c, pre, vs, post, e, e2, e3, e4, l, lf⟩ := r
    exact ⟨by omega, by omega, hu, c, pre, vs, post, by rw [h1, hw]; exact e, e2, by omega, by omega, LLRel.agree h _ _ l hm, lf⟩
  | map es =>
    obtain ⟨e0, ms, clock, e, l⟩ := r
    exact ⟨by omega, ms, clock, by rw [h1, hw]; exact e, l.agree h hm⟩
  | loop st pend fn env ps as bd =>
    obtain ⟨e0, L, e, a1, a2, a3, a4, a5⟩ := r
    exact ⟨by omega, L, by rw [h1, hw]; exact e, a1, a2, a3, a4.agree h hm, a5⟩
  | siter s pos => exact ⟨by rw [hv]; exact r.1, by rw [h1, hw]; exact r.2⟩
  | dfr => exact ⟨by rw [hv]; exact r.1, by rw [h1, hw]; exact r.2⟩
  | dead => trivial

end Go.Den

/- Den: how the world goes on. -/
namespace Go.Den
open Go Go.RowKit

/-- Was something younger stored into an object before this one, or into it? -/
def loAt (lo : Option Nat) (j : Nat) : Prop := ∃ l, lo = some l ∧ l ≤ j

/-- How a state goes on: objects stay; what they refer to is older, or it has been noted. -/
structure AS.Ext (σ σ' : AS) : Prop where
  len : σ.heap.length ≤ σ'.heap.length
  lo : ∀ j, loAt σ.lo j → loAt σ'.lo j
  obj : ∀ (j : Nat) (o : AObj), σ.heap[j]? = some o → ∃ o', σ'.heap[j]? = some o' ∧ ((∀ n, o.le n → o'.le (max n (j + 1))) ∨ loAt σ'.lo j)

theorem AS.Ext.refl (σ : AS) : σ.Ext σ := ⟨Nat.le_refl _, fun _ h => h, fun _ o h => ⟨o, h, .inl fun _ k => k.mono (by omega)⟩⟩

theorem AS.Ext.trans {a b c : AS} (h : a.Ext b) (k : b.Ext c) : a.Ext c where
  len := Nat.le_trans h.len k.len
  lo j x := k.lo j (h.lo j x)
  obj j o e := by
    obtain ⟨o₁, e₁, r₁⟩ := h.obj j o e
    obtain ⟨o₂, e₂, r₂⟩ := k.obj j o₁ e₁
    refine ⟨o₂, e₂, ?_⟩
    rcases r₂ with r₂ | r₂
    · rcases r₁ with r₁ | r₁
      · exact .inl fun n hn => (r₂ _ (r₁ n hn)).mono (by omega)
      · exact .inr (k.lo j r₁)
    · exact .inr r₂

theorem AS.Ext.push (σ : AS) (o : AObj) : σ.Ext (σ.push o) where
  len := by simp [AS.push]
  lo _ h := h
  obj j x e := ⟨x, by
    have : j < σ.heap.length := (List.getElem?_eq_some_iff.1 e).1
    simp [AS.push, List.getElem?_append_left this, e], .inl fun _ k => k.mono (by omega)⟩

theorem loAt_minLo {lo : Option Nat} {id j : Nat} (h : loAt lo j ∨ id ≤ j) : loAt (minLo lo id) j := by
  cases lo with
  | none =>
    rcases h with ⟨l, e, _⟩ | h
    · cases e
    · exact ⟨id, rfl, h⟩
  | some a =>
    refine ⟨Nat.min a id, by simp [minLo, Nat.min_comm], ?_⟩
    rcases h with ⟨l, e, hl⟩ | h
    · cases e; exact Nat.le_trans (Nat.min_le_left _ _) hl
    · exact Nat.le_trans (Nat.min_le_right _ _) h

/-- An object is turned: refs bounds what came in. -/
theorem AS.Ext.set {σ : AS} {id : Nat} {o o' : AObj} {refs : Nat} (he : σ.heap[id]? = some o) (h : ∀ n, o.le n → refs ≤ n → o'.le n) : σ.Ext (σ.set id o' refs) where
  len := by simp [AS.set]
  lo j x := by
    simp only [AS.set]
    split
    · exact x
    · exact loAt_minLo (.inl x)
  obj j x e := by
    by_cases hj : j = id
    · subst hj
      obtain rfl : o = x := by rw [he] at e; exact Option.some.inj e
      have hlt : j < σ.heap.length := (List.getElem?_eq_some_iff.1 e).1
      refine ⟨o', by simp [AS.set, hlt], ?_⟩
      simp only [AS.set]
      split
      · rename_i hr
        exact .inl fun n hn => h _ (hn.mono (by omega)) (by omega)
      · exact .inr (loAt_minLo (.inr (Nat.le_refl _)))
    · exact ⟨x, by simp [AS.set, List.getElem?_set_ne (fun h => hj h.symm), e], .inl fun _ k => k.mono (by omega)⟩

theorem Below.of_blocks {B : Nat} {w₀ w w' : World} (h : Below B w₀ w) (ho : w'.os = w.os) (ht : w'.tape = w.tape) (hu : w'.output = w.output) (hs : w.heap.size ≤ w'.heap.size)
    (hb : ∀ k, k < B → w'.heap[k]? = w.heap[k]?) : Below B w₀ w' := h.trans ⟨ho, ht, hu, hs, hb⟩

variable {P : Program} {B : Nat} {w₀ : World}

/-- A new object. -/
def Gh.push (G : Gh) (b : Nat) (lim sz : Nat) : Gh :=
  { G with n := G.n + 1, blk := fun i => if i = G.n then b else G.blk i, base := fun i => if i = G.n then 0 else G.base i,
           ver := fun i => if i = G.n then 0 else G.ver i, lim := fun i => if i = G.n then lim else G.lim i, sz := fun i => if i = G.n then sz else G.sz i, pz := fun i => if i = G.n then none else G.pz i }

theorem Gh.le_push (G : Gh) (b lim sz : Nat) : G.le (G.push b lim sz) :=
  .mk' (fun _ _ _ h => h) (by simp [Gh.push]) (fun i hi => by simp [Gh.push, Nat.ne_of_lt hi]) (fun i hi => by simp [Gh.push, Nat.ne_of_lt hi]) (fun i hi _ => by simp [Gh.push, Nat.ne_of_lt hi])

theorem Gh.on_push {G : Gh} {b lim sz i : Nat} (h : (G.push b lim sz).on i) : i = G.n ∨ (i ≠ G.n ∧ G.on i) := by
  obtain ⟨h1, h2⟩ := h
  simp only [Gh.push] at h1 h2
  by_cases e : i = G.n
  · exact .inl e
  · rw [if_neg e] at h2
    exact .inr ⟨e, by omega, h2⟩

theorem cell?_alloc_old {w : World} {o : Obj} {b k : Nat} (h : b < w.heap.size) : (w.alloc o).cell? ⟨b, k, none⟩ = w.cell? ⟨b, k, none⟩ := World.cell?_alloc_lt w o ⟨b, k, none⟩ h

theorem WRel.push {G : Gh} {σ : AS} {w : World} (h : WRel P B w₀ G σ w) (O : Obj) (o : AObj) (lim sz : Nat)
    (ho : ORel P (G.push w.heap.size lim sz) G.n (w.alloc O) o) : WRel P B w₀ (G.push w.heap.size lim sz) (σ.push o) (w.alloc O) where
  len := by simp [Gh.push, AS.push, h.len]
  frz b k v e := by
    have e' : G.frz b k = some v := e
    rw [cell?_alloc_old (h.frzLt P e')]
    exact h.frz b k v e'
  obj id x e hz := by
    simp only [AS.push, List.getElem?_append] at e
    split at e
    · rename_i hlt
      have hid : id < G.n := by rw [h.len]; exact hlt
      simp only [Gh.push, if_neg (Nat.ne_of_lt hid)] at hz
      exact ORel.mono (G.le_push _ _ _) ⟨hid, hz⟩ (by simp [Gh.push, Nat.ne_of_lt hid]) (Below.heap_alloc _ _ _ (h.low id ⟨hid, hz⟩).2) (h.obj id x e hz)
    · rename_i hge
      have : id = σ.heap.length := by
        cases hk : id - σ.heap.length with
        | zero => omega
        | succ k => rw [hk] at e; simp at e
      subst this
      simp at e; subst e
      rw [← h.len]; exact ho
  inj i j hi hj e := by
    rcases Gh.on_push hi with h1 | ⟨n1, h1⟩ <;> rcases Gh.on_push hj with h2 | ⟨n2, h2⟩
    · rw [h1, h2]
    · simp only [Gh.push, h1, if_true, if_neg n2] at e
      have := (h.low j h2).2; omega
    · simp only [Gh.push, h2, if_true, if_neg n1] at e
      have := (h.low i h1).2; omega
    · simp only [Gh.push, if_neg n1, if_neg n2] at e
      exact h.inj i j h1 h2 e
  sep i hi k := by
    rcases Gh.on_push hi with h1 | ⟨n1, h1⟩
    · simp only [Gh.push, h1, if_true]
      cases hf : G.frz w.heap.size k with
      | none => rfl
      | some v => have := h.frzLt P hf; omega
    · simp only [Gh.push, if_neg n1]; exact h.sep i h1 k
  low i hi := by
    rcases Gh.on_push hi with h1 | ⟨n1, h1⟩
    · simp only [Gh.push, h1, if_true]; exact ⟨h.hB, by simp⟩
    · simp only [Gh.push, if_neg n1]
      have := h.low i h1
      exact ⟨this.1, by simp; omega⟩
  pob id x hid hz := by
    simp only [Gh.push] at hid hz
    by_cases h1 : id = G.n
    · rw [if_pos h1] at hz; cases hz
    · rw [if_neg h1] at hz
      obtain ⟨q1, q2⟩ := h.pob id x (by omega) hz
      exact ⟨by simp only [AS.push]; rw [List.getElem?_append_left (List.getElem?_eq_some_iff.1 q1).1]; exact q1, q2⟩
  bel := h.bel.alloc h.hB O
  hB := by have := h.hB; simp; omega
  old := h.old

theorem Gh.on_new {G : Gh} {σ : AS} {w : World} (h : WRel P B w₀ G σ w) {b lim sz : Nat} : (G.push b lim sz).on σ.heap.length := ⟨by simp [Gh.push, h.len], by simp [Gh.push, h.len]⟩

/-- A new block of cells that are never written again. -/
def Gh.freeze (G : Gh) (b : Nat) (vs : List Value) : Gh := { G with frz := fun b' o => if b' = b then vs[o]? else G.frz b' o }

theorem WRel.freezeNew {G : Gh} {σ : AS} {w : World} (h : WRel P B w₀ G σ w) (c : Array Value) (ty : TypeId) (fr : Nat × Nat) (vs : List Value) (hv : ∀ (j : Nat) (v : Value), vs[j]? = some v → c[j]? = some v) :
    G.le (G.freeze w.heap.size vs) ∧ WRel P B w₀ (G.freeze w.heap.size vs) σ (w.alloc (.cells c ty fr)) := by
  have hle : G.le (G.freeze w.heap.size vs) := by
    refine .mk' (fun b o v e => ?_) (Nat.le_refl _) (fun _ _ => rfl) (fun _ _ => Nat.le_refl _) (fun _ _ _ => ⟨rfl, rfl, rfl, rfl⟩)
    have := h.frzLt P e
    simp only [Gh.freeze]
    rw [if_neg (by omega)]; exact e
  refine ⟨hle, h.len, fun b o v e => ?_, fun id x e hz => ?_, h.inj, fun i hi k => ?_, fun i hi => ?_, h.bel.alloc h.hB _, ?_, h.pob, fun b o v hb e => hle.frz _ _ _ (h.old b o v hb e)⟩
  · simp only [Gh.freeze] at e
    split at e
    · rename_i hb
      subst hb
      have hh : (w.alloc (.cells c ty fr)).heap[w.heap.size]? = some (.cells c ty fr) := heap_alloc_new w _
      unfold World.cell?
      simp only [hh]
      simpa using hv o v e
    · rw [cell?_alloc_old (h.frzLt P e)]; exact h.frz b o v e
  · have hid : id < G.n := by rw [h.len]; exact (List.getElem?_eq_some_iff.1 e).1
    exact ORel.mono hle ⟨hid, hz⟩ rfl (Below.heap_alloc _ _ _ (h.low id ⟨hid, hz⟩).2) (h.obj id x e hz)
  · have := (h.low i hi).2
    simp only [Gh.freeze]
    rw [if_neg (by omega)]
    exact h.sep i hi k
  · obtain ⟨h1, h2⟩ := h.low i hi
    exact ⟨h1, by have e : (G.freeze w.heap.size vs).blk i = G.blk i := rfl
                  rw [e]; simp; omega⟩
  · have := h.hB; simp; omega

/-- One object's block is turned, the ghost of no other object. -/
theorem WRel.set {G G' : Gh} {σ : AS} {w w' : World} (h : WRel P B w₀ G σ w) {id : Nat} (hid : G.on id) (o' : AObj) (refs : Nat)
    (hle : G.le G') (hn : G'.n = G.n) (hf : G'.frz = G.frz)
    (hoth : ∀ i, i < G.n → i ≠ id → G'.ver i = G.ver i)
    (hblk : G'.blk id = G.blk id ∨ w.heap.size ≤ G'.blk id) (hlt : G'.blk id < w'.heap.size)
    (hw : ∀ k, k ≠ G.blk id → k < w.heap.size → w'.heap[k]? = w.heap[k]?) (hs : w.heap.size ≤ w'.heap.size)
    (h1 : w'.os = w.os) (h2 : w'.tape = w.tape) (h3 : w'.output = w.output)
    (ho : ORel P G' id w' o') : WRel P B w₀ G' (σ.set id o' refs) w' where
  len := by simp [AS.set, hn, h.len]
  frz b k v e := by
    rw [hf] at e
    have hb : b ≠ G.blk id := fun hb => by rw [hb, h.sep id hid k] at e; cases e
    have hl := h.frzLt P e
    have := h.frz b k v e
    simp only [World.cell?] at *
    rw [hw b hb hl]; exact this
  obj j x e hz := by
    by_cases hj : j = id
    · subst hj
      have : σ.heap.length = G.n := h.len.symm
      simp [AS.set, this, hid.1] at e
      subst e; exact ho
    · simp only [AS.set, List.getElem?_set_ne (fun h => hj h.symm)] at e
      have hj0 : j < G.n := by rw [h.len]; exact (List.getElem?_eq_some_iff.1 e).1
      rw [hle.pz j hj0] at hz
      have hj' : G.on j := ⟨hj0, hz⟩
      refine ORel.mono hle hj' (hoth j hj0 hj) (hw _ (fun he => hj (h.inj j id hj' hid he)) (h.low j hj').2) (h.obj j x e hz)
  inj i j hi hj e := by
    have hi : G.on i := ⟨by rw [← hn]; exact hi.1, by rw [← hle.pz i (by rw [← hn]; exact hi.1)]; exact hi.2⟩
    have hj : G.on j := ⟨by rw [← hn]; exact hj.1, by rw [← hle.pz j (by rw [← hn]; exact hj.1)]; exact hj.2⟩
    have key : ∀ i, G.on i → i ≠ id → G'.blk i = G.blk i := fun i hi hne => (hle.same i hi (hoth i hi.1 hne)).1
    by_cases h1 : i = id <;> by_cases h2 : j = id
    · omega
    · rw [h1, key j hj h2] at e
      rcases hblk with hb | hb
      · rw [hb] at e; rw [h1]; exact h.inj id j hid hj e
      · have := (h.low j hj).2; omega
    · rw [h2, key i hi h1] at e
      rcases hblk with hb | hb
      · rw [hb] at e; rw [h2]; exact h.inj i id hi hid e
      · have := (h.low i hi).2; omega
    · rw [key i hi h1, key j hj h2] at e; exact h.inj i j hi hj e
  sep i hi k := by
    have hi : G.on i := ⟨by rw [← hn]; exact hi.1, by rw [← hle.pz i (by rw [← hn]; exact hi.1)]; exact hi.2⟩
    rw [hf]
    by_cases h1 : i = id
    · subst h1
      rcases hblk with hb | hb
      · rw [hb]; exact h.sep i hid k
      · cases hfk : G.frz (G'.blk i) k with
        | none => rfl
        | some v => have := h.frzLt P hfk; omega
    · rw [(hle.same i hi (hoth i hi.1 h1)).1]; exact h.sep i hi k
  low i hi := by
    have hi : G.on i := ⟨by rw [← hn]; exact hi.1, by rw [← hle.pz i (by rw [← hn]; exact hi.1)]; exact hi.2⟩
    by_cases h1 : i = id
    · subst h1
      rcases hblk with hb | hb
      · exact ⟨by rw [hb]; exact (h.low i hid).1, hlt⟩
      · have := h.hB; exact ⟨by omega, hlt⟩
    · rw [(hle.same i hi (hoth i hi.1 h1)).1]
      have := h.low i hi
      exact ⟨this.1, by omega⟩
  bel := Below.of_blocks h.bel h1 h2 h3 hs fun k hk => hw k (by have := (h.low id hid).1; omega) (by have := h.hB; omega)
  hB := by have := h.hB; omega
  pob j x hj hz := by
    rw [hn] at hj
    rw [hle.pz j hj] at hz
    obtain ⟨q1, q2⟩ := h.pob j x hj hz
    have hne : id ≠ j := fun e => by rw [← e, hid.2] at hz; cases hz
    exact ⟨by simp only [AS.set]; rw [List.getElem?_set_ne hne]; exact q1, q2⟩
  old b o v hb e := by rw [hf]; exact h.old b o v hb e

theorem WRel.drew {G : Gh} {σ : AS} {w : World} (h : WRel P B w₀ G σ w) : WRel P B w₀ G σ w.drew :=
  ⟨h.len, h.frz, fun id x e hz => ORel.mono G.le_refl ⟨by rw [h.len]; exact (List.getElem?_eq_some_iff.1 e).1, hz⟩ rfl rfl (h.obj id x e hz), h.inj, h.sep, h.low, h.bel.drew, h.hB, h.pob, h.old⟩

theorem WRel.lo {G : Gh} {σ : AS} {w : World} (h : WRel P B w₀ G σ w) (lo : Option Nat) : WRel P B w₀ G { σ with lo := lo } w :=
  ⟨h.len, h.frz, h.obj, h.inj, h.sep, h.low, h.bel, h.hB, h.pob, h.old⟩

end Go.Den

/- Den: reading and writing rows of cells. -/
namespace Go.Den
open Go Go.RowKit

variable {P : Program}

/-- A block becomes another one. -/
def putB (w : World) (b : Nat) (O : Obj) : World := { w with heap := w.heap.setIfInBounds b O }

theorem putB_putB (w : World) (b : Nat) (O O' : Obj) : putB (putB w b O) b O' = putB w b O' := by simp [putB]

theorem putB_same {w : World} {b : Nat} {O : Obj} (h : b < w.heap.size) : (putB w b O).heap[b]? = some O := by simp [putB, h]

theorem putB_other {w : World} {b k : Nat} {O : Obj} (h : k ≠ b) : (putB w b O).heap[k]? = w.heap[k]? := by
  simp only [putB]
  exact Array.getElem?_setIfInBounds_ne (fun e => h e.symm)

theorem putB_self {w : World} {b : Nat} {O : Obj} (h : w.heap[b]? = some O) : putB w b O = w := by
  have : w.heap.setIfInBounds b O = w.heap := by
    apply Array.ext_getElem?
    intro k
    rw [Array.getElem?_setIfInBounds]
    split
    · rename_i hk; subst hk
      split
      · exact h.symm
      · rename_i hn; rw [Array.getElem?_eq_none (by omega)]
    · rfl
  unfold putB
  rw [this]

@[simp] theorem putB_size (w : World) (b : Nat) (O : Obj) : (putB w b O).heap.size = w.heap.size := by simp [putB]

theorem setCell_putB {w : World} {b o : Nat} {c : Array Value} {ty : TypeId} {fr : Nat × Nat} (h : w.heap[b]? = some (.cells c ty fr)) (v : Value) :
    w.setCell ⟨b, o, none⟩ v = putB w b (.cells (c.setIfInBounds o v) ty fr) := by
  obtain ⟨hlt, e⟩ := Array.getElem?_eq_some_iff.1 h
  simp only [World.setCell, putB]
  congr 1
  apply Array.ext_getElem?
  intro k
  rw [Array.getElem?_modify, Array.getElem?_setIfInBounds]
  by_cases hk : b = k
  · subst hk
    simp [hlt, e]
  · simp [hk]

def putC (c : Array Value) (o : Nat) : List Value → Array Value
  | [] => c
  | v :: vs => putC (c.setIfInBounds o v) (o + 1) vs

@[simp] theorem putC_size (c : Array Value) (o : Nat) (vs : List Value) : (putC c o vs).size = c.size := by
  induction vs generalizing c o with
  | nil => rfl
  | cons v vs ih => simp [putC, ih]

theorem putC_toList (c : Array Value) (o : Nat) (vs : List Value) (h : o + vs.length ≤ c.size) :
    (putC c o vs).toList = c.toList.take o ++ (vs ++ c.toList.drop (o + vs.length)) := by
  induction vs generalizing c o with
  | nil => simp [putC]
  | cons v vs ih =>
    simp only [List.length_cons] at h
    rw [putC, ih _ _ (by simp; omega)]
    have ho : o < c.toList.length := by simp; omega
    simp only [Array.toList_setIfInBounds, List.length_cons]
    rw [List.take_set, List.drop_set]
    simp only [show (o < o + 1 + vs.length) by omega, if_true, List.take_add_one, List.getElem?_eq_getElem ho]
    simp only [Option.toList_some]
    have hm : min o c.size = o := Nat.min_eq_left (by omega)
    rw [List.set_append_right _ _ (by simp; omega)]
    simp [show o + 1 + vs.length = o + (vs.length + 1) by omega, hm]

theorem add_addr (b o i : Nat) : (⟨b, o, none⟩ : Addr).add i = ⟨b, o + i, none⟩ := by
  unfold Addr.add
  split
  · rename_i h; simp [h]
  · rfl

theorem leaf_oneCell {v : Value} (h : leaf v = true) : v.oneCell' = true := by
  cases v <;> simp_all [leaf, Value.oneCell']

theorem run_storeCells {b : Nat} {ty : TypeId} (vs : List Value) : ∀ (c : Array Value) (w : World) (o i : Nat), w.heap[b]? = some (.cells c ty (0, 0)) → o + i + vs.length ≤ c.size → Leaves vs →
    (storeCells ⟨b, o, none⟩ vs i).run P w = .ok () (putB w b (.cells (putC c (o + i) vs) ty (0, 0))) := by
  induction vs with
  | nil => intro c w o i h _ _; simp [storeCells, putC, putB_self h]
  | cons v vs ih =>
    intro c w o i h hl hv
    simp only [List.length_cons] at hl
    have hc : w.cell? (Addr.add ⟨b, o, none⟩ i) = some (c[o + i]'(by omega)) := by
      rw [add_addr, cell_of_row w b (o + i) c ty (0, 0) h]; simp [show o + i < c.size by omega]
    have hz : w.frozen? (Addr.add ⟨b, o, none⟩ i) = false := by rw [add_addr]; exact frozen_of_row w b (o + i) c ty h
    simp only [storeCells, Sem.run_bind]
    rw [run_store P w _ v .plain (leaf_oneCell (hv v (by simp)))]
    simp only [hc, hz]
    rw [add_addr, setCell_putB h]
    have hlt : b < w.heap.size := (Array.getElem?_eq_some_iff.1 h).1
    simp only [Bool.false_eq_true, if_false, Result.andThen_ok]
    rw [ih (c.setIfInBounds (o + i) v) _ o (i + 1) (putB_same hlt) (by simp; omega) (fun u hu => hv u (by simp [hu])), putB_putB]
    rfl

theorem run_loadCellsFrom {w : World} {b o : Nat} (n : Nat) : ∀ (i : Nat) (acc : Array Value) (vs : List Value), vs.length = n → (∀ j v, vs[j]? = some v → w.cell? ⟨b, o + i + j, none⟩ = some v) →
    (loadCellsFrom ⟨b, o, none⟩ i n acc).run P w = .ok (acc ++ vs.toArray) w := by
  induction n with
  | zero => intro i acc vs hl _; have : vs = [] := List.length_eq_zero_iff.1 hl; subst this; simp [loadCellsFrom]
  | succ n ih =>
    intro i acc vs hl hv
    cases vs with
    | nil => simp at hl
    | cons v vs =>
      have h0 := hv 0 v (by simp)
      simp only [loadCellsFrom, Sem.run_bind]
      rw [add_addr, run_load]
      simp only [Nat.add_zero] at h0
      simp only [h0]
      simp only [Result.andThen_ok]
      rw [ih (i + 1) (acc.push v) vs (by simpa using hl) (fun j u hj => by
        have := hv (j + 1) u (by simpa using hj)
        rw [show o + (i + 1) + j = o + i + (j + 1) by omega]; exact this)]
      congr 1
      apply Array.ext'
      simp

theorem run_loadCells {w : World} {b o n : Nat} (vs : List Value) (hl : vs.length = n) (hv : ∀ j v, vs[j]? = some v → w.cell? ⟨b, o + j, none⟩ = some v) :
    (loadCells ⟨b, o, none⟩ n).run P w = .ok vs.toArray w := by
  unfold loadCells
  rw [run_loadCellsFrom n 0 #[] vs hl (by simpa using hv)]
  simp

end Go.Den

/- Den: each operation of the model does what its instruction does. -/
namespace Go.Den
open Go Go.RowKit

section
variable {P : Program}

theorem run_size {t : TypeId} {n : Nat} (h : sizeT P t = some n) (w : World) : (sizeOf t).run P w = .ok n w := by
  unfold sizeT at h
  cases hi : P.info? t with
  | none => simp [hi] at h
  | some i =>
    simp [hi] at h
    simp only [sizeOf, Sem.run_bind, run_typeInfo _ hi, Result.andThen_ok, Sem.run_pure]
    rw [h]

theorem run_bytes {t : TypeId} {n : Nat} (h : bytesT P t = some n) (w : World) : ∃ i, (typeInfo t).run P w = .ok i w ∧ i.bytes = n := by
  unfold bytesT at h
  cases hi : P.info? t with
  | none => simp [hi] at h
  | some i => simp [hi] at h; exact ⟨i, run_typeInfo _ hi, h⟩

theorem run_agg {t : TypeId} {b : Bool} (h : aggT P t = some b) (w : World) : (isAgg t).run P w = .ok b w := by
  unfold aggT at h
  cases hu : P.underlying t with
  | none => simp [hu] at h
  | some d =>
    simp only [hu, Option.map_some, Option.some.injEq] at h
    subst h
    simp only [isAgg, Sem.run_bind, run_underlying hu, Result.andThen_ok]
    cases d <;> simp [Sem.run_pure]

end

/-- The ghost that knows the old cells alone. -/
def G0 (B : Nat) (w₀ : World) : Gh := { frz := fun b o => if b < B then w₀.cell? ⟨b, o, none⟩ else none, n := 0, blk := id, base := id, ver := id, lim := id, sz := id }

/-- What is known of listed variables. -/
def GlobOk (X : Ctx) (B : Nat) (w₀ : World) : Prop :=
  (∀ g cs, X.glob g = some cs → g < B ∧ ∃ vs, (∀ (j : Nat) v, vs[j]? = some v → w₀.cell? ⟨g, j, none⟩ = some v) ∧ Leaves vs ∧
    LRel (G0 B w₀) cs vs) ∧
  (∀ g es, X.gmap g = some es → g < B ∧ ∃ es' r ms clock, r < B ∧ w₀.cell? ⟨g, 0, none⟩ = some (.map (some r)) ∧ w₀.heap[r]? = some (.map ms clock) ∧ MRel (G0 B w₀) es' ms.toList ∧ ∀ k v, findKeyA k es = some v → findKeyA k es' = some v)

variable {P : Program} {X : Ctx} {B : Nat} {w₀ : World}

theorem G0_agree {G : Gh} {σ : AS} {w : World} (h : WRel P B w₀ G σ w) : (G0 B w₀).agree 0 G := by
  refine ⟨fun b o v hv => ?_, Nat.zero_le _, ?_, ?_, ?_, ?_, ?_, ?_⟩
  · simp only [G0] at hv
    split at hv
    · exact h.old b o v ‹_› hv
    · cases hv
  all_goals (intro i hi; omega)

theorem GlobOk.rel (hg : GlobOk X B w₀) {G : Gh} {σ : AS} {w : World} (h : WRel P B w₀ G σ w) {g : Nat} {cs : List AV} (e : X.glob g = some cs) :
    ∃ vs, Frz G g 0 vs ∧ Leaves vs ∧ LRel G cs vs := by
  obtain ⟨hb, vs, h1, h2, h3⟩ := hg.1 g cs e
  refine ⟨vs, fun j v hj => ?_, h2, LRel.agree (G0_agree h) _ _ h3 (by have := LRel.refs _ _ h3; simpa [G0] using this)⟩
  rw [Nat.zero_add]; exact h.old g j v hb (h1 j v hj)

theorem GlobOk.relM (hg : GlobOk X B w₀) {G : Gh} {σ : AS} {w : World} (h : WRel P B w₀ G σ w) {g : Nat} {es : List (AV × AV)} (e : X.gmap g = some es) {v : Value} (hv : VRel G (.mglob g) v) :
    ∃ es' r ms clock, v = .map (some r) ∧ w.heap[r]? = some (.map ms clock) ∧ MRel G es' ms.toList ∧ ∀ k v, findKeyA k es = some v → findKeyA k es' = some v := by
  obtain ⟨hb, es', r, ms, clock, h1, h2, h3, h4, h5⟩ := hg.2 g es e
  simp only [VRel] at hv
  have := h.old g 0 _ hb h2
  rw [hv.2] at this
  cases this
  exact ⟨es', r, ms, clock, rfl, by rw [h.bel.block r h1]; exact h3, MRel.agree (G0_agree h) h4 (fun p hp => by have := MRel.refs h4 p hp; simpa [G0] using this), h5⟩

/-- The outcome of an operation that goes on. -/
def Good (P : Program) (B : Nat) (w₀ : World) (G : Gh) (σ : AS) (v : AV) (σ' : AS) (r : Result Next) : Prop :=
  ∃ G' w' v', (r = .ok (.value v') w' ∨ (r = .ok .skip w' ∧ v' = undef)) ∧ G.le G' ∧ WRel P B w₀ G' σ' w' ∧ VRel G' v v' ∧ σ.Ext σ'

theorem Good.same {G : Gh} {σ : AS} {w : World} (h : WRel P B w₀ G σ w) {v : AV} {v' : Value} (hv : VRel G v v') : Good P B w₀ G σ v σ (.ok (.value v') w) :=
  ⟨G, w, v', .inl rfl, G.le_refl, h, hv, .refl σ⟩

theorem ofScalar_rel {G : Gh} : ∀ (v : Value), (AV.ofScalar v).plain = true → VRel G (AV.ofScalar v) v := by
  intro v h
  cases v with
  | pointer a => cases a <;> simp_all [AV.ofScalar, VRel, AV.plain]
  | slice a n c =>
    cases a with
    | none =>
      simp only [AV.ofScalar] at *
      split at h
      · rename_i e; simp [e, VRel]
      · simp [AV.plain] at h
    | some a => simp [AV.ofScalar, AV.plain] at h
  | map r => cases r <;> simp_all [AV.ofScalar, VRel, AV.plain]
  | tuple vs =>
    simp only [AV.ofScalar] at *
    split at h
    · rename_i e
      have : vs = #[] := Array.eq_empty_of_size_eq_zero e
      subst this
      simp [VRel, LRel]
    · simp [AV.plain] at h
  | _ => simp_all [AV.ofScalar, VRel, AV.plain]

theorem ofScalars_rel {G : Gh} : ∀ (vs : List Value), (∀ v ∈ vs, (AV.ofScalar v).plain = true) → LRel G (vs.map AV.ofScalar) vs
  | [], _ => by simp [LRel]
  | v :: vs, h => ⟨v, vs.map id, by simp, ofScalar_rel v (h v (by simp)), by simpa using ofScalars_rel vs fun u hu => h u (by simp [hu])⟩

theorem ofScalar_leaf {v : Value} (h : (AV.ofScalar v).plain = true) (k : (AV.ofScalar v).isTup = false) : leaf v = true := by
  cases v with
  | agg cs => simp [AV.ofScalar, AV.plain] at h
  | tuple vs => simp only [AV.ofScalar] at k; split at k <;> simp [AV.isTup] at k
  | _ => rfl

theorem ofValue_rel {G : Gh} (v : Value) (h : constOk v = true) : VRel G (AV.ofValue v) v := by
  cases v with
  | agg cs =>
    simp only [constOk, List.all_eq_true, Bool.and_eq_true, Bool.not_eq_true'] at h
    exact ⟨cs, rfl, ofScalars_rel _ fun v hv => (h v hv).1, fun v hv => ofScalar_leaf (h v hv).1 (h v hv).2⟩
  | iface t v => exact ⟨v, rfl, ofScalar_rel v h⟩
  | _ => simp only [AV.ofValue]; apply ofScalar_rel; exact h

theorem getD_rel {G : Gh} {nt : Nat} {e : Env} {tmps : Array Value} (h : ERel G nt e tmps) (t : Nat) : VRel G (e t) (tmps.getD t undef) := by
  by_cases ht : t < tmps.size
  · have := h.get t tmps[t] (by simp [ht])
    simpa [Array.getD, ht] using this
  · rw [h.out t (by have := h.size; omega)]
    simp [Array.getD, ht, VRel, LRel, undef]

theorem opd_rel {G : Gh} {nt : Nat} {e : Env} {a : Act} (h : ERel G nt e a.tmps) {x : Operand} {y : Opd} (hx : opd x = some y) : VRel G (y.get e) (a.eval x) := by
  cases x with
  | tmp t => simp only [opd, Option.some.injEq] at hx; subst hx; exact getD_rel h t
  | const v =>
    simp only [opd] at hx
    split at hx
    · rename_i hc; cases hx; exact ofValue_rel v hc
    · cases hx
  | global g => simp only [opd, Option.some.injEq] at hx; subst hx; simp [Opd.get, VRel, Act.eval]
  | func f => simp only [opd, Option.some.injEq] at hx; subst hx; exact ⟨.func f, #[], #[], rfl, rfl, by simp [LRel], by simp [LRel]⟩

theorem opds_rel {G : Gh} {nt : Nat} {e : Env} {a : Act} (h : ERel G nt e a.tmps) : ∀ {xs : List Operand} {ys : List Opd}, opds xs = some ys → LRel G (ys.map (·.get e)) (xs.map a.eval)
  | [], _, hx => by simp only [opds, Option.some.injEq] at hx; subst hx; simp [LRel]
  | x :: xs, ys, hx => by
    simp only [opds] at hx
    split at hx
    · rename_i y ys' h1 h2
      cases hx
      exact ⟨_, _, rfl, opd_rel h h1, opds_rel h h2⟩
    · cases hx


section ops
variable {G : Gh} {σ : AS} {w : World} (hw : WRel P B w₀ G σ w) {nt : Nat} {e : Env} {a : Act} (he : ERel G nt e a.tmps)
include hw

omit hw in
theorem part_rel {b : Bool} {n off : Nat} {cs : List AV} {v : AV} {vs : List Value} (hl : LRel G cs vs) (lf : Leaves vs) (h : part b n cs off = some v) :
    (b = true ∧ off + n ≤ vs.length ∧ VRel G v (.agg ((vs.drop off).take n).toArray)) ∨ (b = false ∧ ∃ u, vs[off]? = some u ∧ VRel G v u) := by
  unfold part at h
  cases b with
  | true =>
    simp only [if_true] at h
    split at h
    · rename_i hle
      cases h
      refine .inl ⟨rfl, by rw [hl.length]; exact hle, ⟨_, rfl, by simpa using (hl.drop off).take n, by simpa using (lf.drop off).take n⟩⟩
    · cases h
  | false =>
    simp only [Bool.false_eq_true, if_false] at h
    obtain ⟨u, hu, hr⟩ := hl.get off v h
    exact .inr ⟨rfl, u, hu, hr⟩

omit hw in
/-- A load, of whatever lies at cells that are known. -/
theorem run_loadVar {t : TypeId} {bb : Bool} {n b o : Nat} {v : AV} {cs : List AV} {vs : List Value} {off : Nat} (h1 : aggT P t = some bb) (h2 : sizeT P t = some n)
    (hl : LRel G cs vs) (lf : Leaves vs) (hp : part bb n cs off = some v) (hc : ∀ j u, vs[j]? = some u → w.cell? ⟨b, o + j, none⟩ = some u) :
    ∃ v', (loadVar t ⟨b, o + off, none⟩).run P w = .ok v' w ∧ VRel G v v' := by
  rcases part_rel hl lf hp with ⟨rfl, hle, hr⟩ | ⟨rfl, u, hu, hr⟩
  · refine ⟨_, ?_, hr⟩
    simp only [loadVar, Sem.run_bind, run_agg h1, Result.andThen_ok, if_true, run_size h2]
    rw [run_loadCells ((vs.drop off).take n) (by simp; omega) (fun j u hj => by
      rw [List.getElem?_take] at hj
      split at hj
      · rw [List.getElem?_drop] at hj
        rw [Nat.add_assoc]; exact hc _ _ hj
      · cases hj)]
    simp
  · refine ⟨u, ?_, hr⟩
    simp only [loadVar, Sem.run_bind, run_agg h1, Result.andThen_ok, Bool.false_eq_true, if_false, run_load]
    rw [hc off u hu]

theorem cells_of_box {id : Nat} {cs : List AV} {tg : Option TypeId} (h : σ.heap[id]? = some (.box cs tg)) (hz : G.pz id = none) : G.ver id = 0 ∧ G.on id ∧ ∃ c ty, w.heap[G.blk id]? = some (.cells c ty (0, 0)) ∧ LRel G cs c.toList ∧ Leaves c.toList ∧ ∀ t, tg = some t → ty = t := by
  obtain ⟨h0, c, ty, h1, h2, h3⟩ := hw.obj id _ h hz
  exact ⟨h0, ⟨by rw [hw.len]; exact (List.getElem?_eq_some_iff.1 h).1, hz⟩, c, ty, h1, h2, h3⟩

omit hw in
theorem cell_of_block {b : Nat} {c : Array Value} {ty : TypeId} (h : w.heap[b]? = some (.cells c ty (0, 0))) (j : Nat) (u : Value) (hu : c.toList[j]? = some u) : w.cell? ⟨b, j, none⟩ = some u := by
  rw [cell_of_row w b j c ty (0, 0) h]; simpa using hu

theorem loadA_run (hg : GlobOk X B w₀) {t : TypeId} {bb : Bool} {n : Nat} (h1 : aggT P t = some bb) (h2 : sizeT P t = some n) {x v : AV} {x' : Value} (hx : VRel G x x') (h : loadA X σ bb n x = some v) :
    ∃ v', (Instr.loadAt t x').run P w = .ok v' w ∧ VRel G v v' := by
  have key : ∀ (ad : Addr), x' = .pointer (some ad) → (∃ v', (loadVar t ad).run P w = .ok v' w ∧ VRel G v v') → ∃ v', (Instr.loadAt t x').run P w = .ok v' w ∧ VRel G v v' := by
    rintro ad rfl ⟨v', hv, hr⟩
    refine ⟨v', ?_, hr⟩
    simp only [Instr.loadAt, Sem.run_bind, Instr.sureAddr, Sem.run_pure, Result.andThen_ok]
    exact hv
  unfold loadA at h
  split at h
  · rename_i id off
    simp only [VRel] at hx
    obtain ⟨hon, ad, rfl, had⟩ := hx
    split at h
    · rename_i cs hh
      obtain ⟨h0, _, c, ty, hb, hl, lf, _⟩ := cells_of_box hw hh hon.2
      refine key ad rfl ?_
      rw [had h0]
      have := run_loadVar (b := G.blk id) (o := 0) h1 h2 hl lf h (fun j u hu => by rw [Nat.zero_add]; exact cell_of_block hb j u hu)
      rwa [Nat.zero_add] at this
    · cases h
  · rename_i id ver i off
    simp only [VRel] at hx
    obtain ⟨hon, _, ad, rfl, had⟩ := hx
    split at h
    · rename_i v₀ sz ty els hh
      split at h
      · rename_i hv
        obtain ⟨h0, hsz, hu, c, pre, vs, post, hb, hc, hp, hs, hl, lf⟩ := hw.obj id _ hh hon.2
        subst hv
        cases hel : els[i]? with
        | none => simp [hel] at h
        | some el =>
          simp only [hel, Option.bind_some] at h
          split at h
          · rename_i hlen
            refine key ad rfl ?_
            rw [had h0]
            have hi : i < els.length := (List.getElem?_eq_some_iff.1 hel).1
            have hfl : els.flatten = (els.take i).flatten ++ (el ++ (els.drop (i + 1)).flatten) := by
              conv => lhs; rw [← List.take_append_drop i els]
              rw [List.flatten_append, List.drop_eq_getElem_cons hi]
              have : els[i] = el := by simpa [List.getElem?_eq_getElem hi] using hel
              simp [this]
            have hpl : (els.take i).flatten.length = i * sz := by
              have : ∀ (l : List (List AV)), (∀ x ∈ l, x.length = sz) → l.flatten.length = l.length * sz := by
                intro l hl
                induction l with
                | nil => simp
                | cons x xs ih => simp [ih fun y hy => hl y (by simp [hy]), hl x (by simp)]; rw [Nat.succ_mul]; omega
              rw [this _ fun x hx => hu x (List.mem_of_mem_take hx), List.length_take, Nat.min_eq_left (Nat.le_of_lt hi)]
            have hL := LLRel.iff.1 hl
            rw [hfl] at hL
            obtain ⟨v1, v2, rfl, k1, k2⟩ := hL.split
            obtain ⟨v3, v4, rfl, k3, k4⟩ := k2.split
            have hv1 : v1.length = i * sz := by rw [k1.length, hpl]
            have lf3 : Leaves v3 := fun y hy => lf y (by simp [hy])
            have := run_loadVar (b := G.blk id) (o := G.base id + i * G.sz id) h1 h2 k3 lf3 h (fun j u hu => by
              refine cell_of_block hb _ u ?_
              rw [hc]
              have hj : j < v3.length := (List.getElem?_eq_some_iff.1 hu).1
              rw [List.getElem?_append_right (by omega), List.append_assoc, List.getElem?_append_right (by rw [hv1, hsz]; omega), List.append_assoc, List.getElem?_append_left (by rw [hv1, hsz]; omega)]
              rw [← hu]; congr 1
              rw [hv1, hsz]; omega)
            exact this
          · cases h
      · cases h
    · cases h
  · rename_i cs off
    simp only [VRel] at hx
    obtain ⟨b, o, vs, rfl, hf, lf, hl⟩ := hx
    exact key _ rfl (run_loadVar h1 h2 hl lf h fun j u hu => hw.frz _ _ _ (hf j u hu))
  · rename_i g
    simp only [VRel] at hx
    subst hx
    cases hgl : X.glob g with
    | none => simp [hgl] at h
    | some cs =>
      simp only [hgl, Option.bind_some] at h
      obtain ⟨vs, hf, lf, hl⟩ := hg.rel hw hgl
      have := run_loadVar (b := g) (o := 0) h1 h2 hl lf h fun j u hu => hw.frz _ _ _ (hf j u hu)
      exact key _ rfl (by simpa using this)
  · cases h

end ops

end Go.Den

/- Den: operations that leave the world alone. -/
namespace Go.Den
open Go Go.RowKit

variable {P : Program} {X : Ctx} {B : Nat} {w₀ : World}
variable {G : Gh} {σ : AS} {w : World}

theorem faddr_run (hw : WRel P B w₀ G σ w) (hg : GlobOk X B w₀) {s : TypeId} {fields : Array Field} {f : Nat} {g : Field} {n : Nat} (h1 : P.underlying s = some (.struct fields)) (h2 : fields[f]? = some g)
    (h3 : sizeT P g.type = some n) (h4 : 0 < n) {x v : AV} {x' : Value} (hx : VRel G x x') (h : faddrA X g.offset x = some v) :
    ∃ v', (Instr.fieldAt s x' f).run P w = .ok v' w ∧ VRel G v v' := by
  have key : ∀ ad, x' = .pointer (some ad) → (Instr.fieldAt s x' f).run P w = .ok (.pointer (some (ad.add g.offset))) w := by
    rintro ad rfl
    simp only [Instr.fieldAt, Sem.run_bind, run_underlying h1, Result.andThen_ok, h2, Instr.sureAddr, Sem.run_pure, fieldPlace, run_size h3, Sem.run_ite]
    rw [if_neg (by omega)]
    simp
  unfold faddrA at h
  split at h
  · simp only [VRel] at hx
    obtain ⟨h0, ad, e, c⟩ := hx
    cases h
    refine ⟨_, key ad e, h0, _, rfl, fun hv => ?_⟩
    rw [c hv, add_addr]
  · simp only [VRel] at hx
    obtain ⟨h0, h0', ad, e, c⟩ := hx
    cases h
    refine ⟨_, key ad e, h0, h0', _, rfl, fun hv => ?_⟩
    rw [c hv, add_addr]; congr 1; omega
  · simp only [VRel] at hx
    obtain ⟨b, o, vs, e, r⟩ := hx
    cases h
    refine ⟨_, key _ e, b, o, vs, ?_, r⟩
    rw [add_addr, Nat.add_assoc]
  · simp only [VRel] at hx
    split at h
    · rename_i cs hgl
      cases h
      obtain ⟨vs, hf, lf, hl⟩ := hg.rel hw hgl
      refine ⟨_, key _ hx, _, 0, vs, ?_, hf, lf, hl⟩
      rw [add_addr]
    · cases h
  · cases h

theorem intOf?_rel {x : AV} {x' : Value} {i : Int} (hx : VRel G x x') (h : intOf? x = some i) : ∃ k, x = .int k i ∧ x' = .int k i := by
  cases x <;> simp [intOf?] at h
  subst h
  simp only [VRel] at hx
  exact ⟨_, rfl, hx⟩

theorem iaddra_run (hw : WRel P B w₀ G σ w) (hg : GlobOk X B w₀) {t elem : TypeId} {n sz : Nat} (h1 : P.underlying t = some (.array n elem)) (h2 : sizeT P elem = some sz)
    {x ix v : AV} {x' ix' : Value} (hx : VRel G x x') (hi : VRel G ix ix') (h : iaddraA X n sz x ix = some v) :
    ∃ v', (Instr.indexAt t x' ix').run P w = .ok v' w ∧ VRel G v v' := by
  unfold iaddraA at h
  split at h
  · rename_i i hint
    obtain ⟨k, _, rfl⟩ := intOf?_rel hi hint
    split at h
    · rename_i hb
      have key : ∀ ad, x' = .pointer (some ad) → (Instr.indexAt t x' (.int k i)).run P w = .ok (.pointer (some (ad.add (i.toNat * sz)))) w := by
        rintro ad rfl
        simp only [Instr.indexAt, Sem.run_bind, asIntOf, Sem.run_pure, Result.andThen_ok, run_underlying h1, Instr.sureAddr]
        have : (decide (n ≤ 1) && (match TypeDesc.array n elem with | .array .. => true | _ => false)) = decide (n ≤ 1) := by simp
        by_cases hn : n ≤ 1 <;> simp [hn, run_underlying h1, hb, run_size h2]
      split at h
      · simp only [VRel] at hx
        obtain ⟨h0, ad, e, c⟩ := hx
        cases h
        refine ⟨_, key ad e, h0, _, rfl, fun hv => ?_⟩
        rw [c hv, add_addr]
      · simp only [VRel] at hx
        obtain ⟨h0, h0', ad, e, c⟩ := hx
        cases h
        refine ⟨_, key ad e, h0, h0', _, rfl, fun hv => ?_⟩
        rw [c hv, add_addr]; congr 1; omega
      · simp only [VRel] at hx
        obtain ⟨b, o, vs, e, r⟩ := hx
        cases h
        refine ⟨_, key _ e, b, o, vs, ?_, r⟩
        rw [add_addr, Nat.add_assoc]
      · simp only [VRel] at hx
        split at h
        · rename_i cs hgl
          cases h
          obtain ⟨vs, hf, lf, hl⟩ := hg.rel hw hgl
          refine ⟨_, key _ hx, _, 0, vs, ?_, hf, lf, hl⟩
          rw [add_addr]
        · cases h
      · cases h
    · cases h
  · cases h

theorem flatten_uniform {sz : Nat} {els : List (List AV)} (h : ∀ el ∈ els, el.length = sz) : els.flatten.length = els.length * sz := by
  induction els with
  | nil => simp
  | cons x xs ih => simp [ih fun y hy => h y (by simp [hy]), h x (by simp)]; rw [Nat.succ_mul]; omega

/-- An element of a row of elements. -/
theorem LLRel.at {els : List (List AV)} {vs : List Value} {sz i : Nat} {el : List AV} (hl : LLRel G els vs) (hu : ∀ x ∈ els, x.length = sz) (hel : els[i]? = some el) :
    LRel G el ((vs.drop (i * sz)).take sz) := by
  have hi : i < els.length := (List.getElem?_eq_some_iff.1 hel).1
  have hfl : els.flatten = (els.take i).flatten ++ (el ++ (els.drop (i + 1)).flatten) := by
    conv => lhs; rw [← List.take_append_drop i els]
    rw [List.flatten_append, List.drop_eq_getElem_cons hi]
    have : els[i] = el := by simpa [List.getElem?_eq_getElem hi] using hel
    simp [this]
  have hpl : (els.take i).flatten.length = i * sz := by
    rw [flatten_uniform fun x hx => hu x (List.mem_of_mem_take hx), List.length_take, Nat.min_eq_left (Nat.le_of_lt hi)]
  have hL := LLRel.iff.1 hl
  rw [hfl] at hL
  obtain ⟨v1, v2, rfl, k1, k2⟩ := hL.split
  obtain ⟨v3, v4, rfl, k3, k4⟩ := k2.split
  have hv1 : v1.length = i * sz := by rw [k1.length, hpl]
  have hv3 : v3.length = sz := by rw [k3.length]; exact hu el (List.mem_of_getElem? hel)
  rw [List.drop_append_of_le_length (by omega), List.drop_eq_nil_of_le (by omega), List.nil_append, List.take_append_of_le_length (by omega), List.take_of_length_le (by omega)]
  exact k3

theorem iaddrs_run {t elem : TypeId} {sz : Nat} (h1 : P.underlying t = some (.slice elem)) (h2 : sizeT P elem = some sz)
    {x ix v : AV} {x' ix' : Value} (hx : VRel G x x') (hi : VRel G ix ix') (h : iaddrsA sz x ix = some v) :
    ∃ v', (Instr.indexAt t x' ix').run P w = .ok v' w ∧ VRel G v v' := by
  unfold iaddrsA at h
  split at h
  · rename_i i hint
    obtain ⟨k, _, rfl⟩ := intOf?_rel hi hint
    have key : ∀ (ad : Addr) (len cap : Nat), x' = .slice (some ad) len cap → 0 ≤ i ∧ i < len → (Instr.indexAt t x' (.int k i)).run P w = .ok (.pointer (some (ad.add (i.toNat * sz)))) w := by
      rintro ad len cap rfl hb
      simp only [Instr.indexAt, Sem.run_bind, asIntOf, Sem.run_pure, Result.andThen_ok, run_underlying h1]
      by_cases hn : len ≤ 1 <;> simp [hn, run_underlying h1, hb, run_size h2]
    split at h
    · rename_i els clip
      split at h
      · rename_i h0
        split at h
        · rename_i el hel
          split at h
          · rename_i hlen
            cases h
            simp only [VRel] at hx
            obtain ⟨b, o, cap, sz', vs, e, c1, c2, c3, hf, lf, hl⟩ := hx
            have hi : i.toNat < els.length := (List.getElem?_eq_some_iff.1 hel).1
            have hsz : sz' = sz := by rw [← hlen]; exact (c3 el (List.mem_of_getElem? hel)).symm
            subst hsz
            refine ⟨_, key _ _ _ e ⟨h0, by omega⟩, b, o + i.toNat * sz', (vs.drop (i.toNat * sz')).take sz', ?_, ?_, (lf.drop _).take _, hl.at c3 hel⟩
            · rw [add_addr]; rfl
            · intro j u hj
              rw [List.getElem?_take] at hj
              split at hj
              · rw [List.getElem?_drop] at hj
                rw [Nat.add_assoc]; exact hf _ _ hj
              · cases hj
          · cases h
        · cases h
      · cases h
    · rename_i id ver sz' off len clip
      split at h
      · rename_i hb
        obtain ⟨hb1, hb2, rfl⟩ := hb
        cases h
        simp only [VRel] at hx
        obtain ⟨h0, h0', ad, cap, e, c1, c2, c3⟩ := hx
        refine ⟨_, key _ _ _ e ⟨hb1, hb2⟩, h0, h0', _, rfl, fun hv => ?_⟩
        rw [(c3 hv).2.1 (by omega), add_addr, (c3 hv).1, Nat.add_mul]; congr 1; omega
      · cases h
    · rename_i id sz' off len
      split at h
      · rename_i hb
        cases h
        simp only [VRel] at hx
        obtain ⟨h0, ad, cap, e, c1, c2⟩ := hx
        refine ⟨_, key _ _ _ e ⟨hb.1, hb.2.1⟩, h0, _, rfl, fun hv => ?_⟩
        rw [c2 hv (by omega), add_addr]
      · cases h
    · cases h
  · cases h

end Go.Den

/- Den: operations that leave the world alone, continued: numbers, strings, parts, slices. -/
namespace Go.Den
open Go Go.RowKit

variable {P : Program} {X : Ctx} {B : Nat} {w₀ : World}
variable {G : Gh} {σ : AS} {w : World}

theorem part_run {t : TypeId} {bb : Bool} {n off : Nat} {cs : List AV} {v : AV} {c : Array Value} (h1 : aggT P t = some bb) (h2 : sizeT P t = some n)
    (hl : LRel G cs c.toList) (lf : Leaves c.toList) (hp : Den.part bb n cs off = some v) (w : World) : ∃ v', (Go.part t c off).run P w = .ok v' w ∧ VRel G v v' := by
  rcases part_rel hl lf hp with ⟨rfl, hle, hr⟩ | ⟨rfl, u, hu, hr⟩
  · refine ⟨_, ?_, hr⟩
    simp only [Go.part, Sem.run_bind, run_agg h1, Result.andThen_ok, if_true, run_size h2, Sem.run_pure]
    congr 2
    apply Array.ext'
    rw [Array.toList_extract, List.extract_eq_take_drop]
    simp
  · refine ⟨u, ?_, hr⟩
    have hu' : c[off]? = some u := by simpa using hu
    simp only [Go.part, Sem.run_bind, run_agg h1, Result.andThen_ok, Bool.false_eq_true, if_false, hu', Sem.run_pure]

theorem fld_run {s : TypeId} {fields : Array Field} {f : Nat} {g : Field} {bb : Bool} {n : Nat} (h1 : P.underlying s = some (.struct fields)) (h2 : fields[f]? = some g)
    (h3 : aggT P g.type = some bb) (h4 : sizeT P g.type = some n) {cs : List AV} {v : AV} {x' : Value} (hx : VRel G (.agg cs) x') (h : Den.part bb n cs g.offset = some v) (w : World) :
    ∃ v', (Instr.field s x' f).run P w = .ok v' w ∧ VRel G v v' := by
  simp only [VRel] at hx
  obtain ⟨c, rfl, hl, lf⟩ := hx
  obtain ⟨v', hv, hr⟩ := part_run h3 h4 hl lf h w
  refine ⟨v', ?_, hr⟩
  simp only [Instr.field, Sem.run_bind, run_underlying h1, Result.andThen_ok, h2, asAgg, Sem.run_pure]
  exact hv

theorem idxa_run {t elem : TypeId} {n sz : Nat} {bb : Bool} (h1 : P.underlying t = some (.array n elem)) (h2 : aggT P elem = some bb) (h3 : sizeT P elem = some sz)
    {x ix v : AV} {x' ix' : Value} (hx : VRel G x x') (hi : VRel G ix ix') (h : idxaA bb n sz x ix = some v) (w : World) :
    ∃ v', (Instr.index t x' ix').run P w = .ok v' w ∧ VRel G v v' := by
  unfold idxaA at h
  split at h
  · rename_i i cs hint
    obtain ⟨k, _, rfl⟩ := intOf?_rel hi hint
    split at h
    · rename_i hb
      simp only [VRel] at hx
      obtain ⟨c, rfl, hl, lf⟩ := hx
      obtain ⟨v', hv, hr⟩ := part_run h2 h3 hl lf h w
      refine ⟨v', ?_, hr⟩
      simp only [Instr.index, Sem.run_bind, asIntOf, Sem.run_pure, Result.andThen_ok, run_underlying h1]
      rw [if_pos hb]
      simp only [Sem.run_bind, run_size h3, Result.andThen_ok]
      exact hv
    · cases h
  · cases h

theorem idxs_run {t : TypeId} (h1 : P.underlying t = some .string) {x ix v : AV} {x' ix' : Value} (hx : VRel G x x') (hi : VRel G ix ix') (h : idxsA x ix = some v) (w : World) :
    ∃ v', (Instr.index t x' ix').run P w = .ok v' w ∧ VRel G v v' := by
  unfold idxsA at h
  split at h
  · rename_i i s hint
    obtain ⟨k, _, rfl⟩ := intOf?_rel hi hint
    simp only [VRel] at hx
    subst hx
    split at h
    · rename_i h0
      split at h
      · rename_i b hb
        cases h
        refine ⟨.int .u8 b.toNat, ?_, by simp only [VRel]⟩
        have hb' : s[i.toNat]? = some b := by
          have : s.data[i.toNat]? = some b := by simpa using hb
          obtain ⟨hlt, e⟩ := Array.getElem?_eq_some_iff.1 this
          have hsz : i.toNat < s.size := hlt
          rw [getElem?_pos s i.toNat hsz]
          exact congrArg some e
        simp only [Instr.index, Sem.run_bind, asIntOf, Sem.run_pure, Result.andThen_ok, run_underlying h1, if_pos h0, hb']
      · cases h
    · cases h
  · cases h

theorem ext_run {x : AV} {x' : Value} {vs : List AV} {i : Nat} {v : AV} (hx : VRel G (.tup vs) x') (h : vs[i]? = some v) (w : World) :
    ∃ v', (Instr.extract x' i).run P w = .ok v' w ∧ VRel G v v' := by
  simp only [VRel] at hx
  obtain ⟨c, rfl, hl⟩ := hx
  obtain ⟨v', hv, hr⟩ := hl.get i v h
  refine ⟨v', ?_, hr⟩
  have : c[i]? = some v' := by simpa using hv
  simp [Instr.extract, this]

/-! Bounds -/

theorem upTo_run {n d r : Nat} {o : Option AV} (h : upTo n o d = some r) :
    (o = none ∧ r = d) ∨ ∃ k i, o = some (.int k i) ∧ 0 ≤ i ∧ i ≤ n ∧ r = i.toNat := by
  unfold upTo at h
  split at h
  · cases h; exact .inl ⟨rfl, rfl⟩
  · split at h
    · rename_i hb
      cases h
      exact .inr ⟨_, _, rfl, hb.1, hb.2, rfl⟩
    · cases h
  · cases h

theorem sliceBound_run {k : IntKind} {i : Int} {y : Nat} (h : 0 ≤ i ∧ i ≤ y) (code : BoundsCode) (w : World) : (Instr.sliceBound (.int k i) y code).run P w = .ok i.toNat w := by
  simp [Instr.sliceBound, asIntOf, h]

def ORelO (G : Gh) : Option AV → Option Value → Prop
  | none, o => o = none
  | some x, o => ∃ v, o = some v ∧ VRel G x v

/-- Bounds, without a third one. The concrete capacity may be greater than what Den knows. -/
theorem bounds_run {isS : Bool} {len cap : Nat} (hc : len ≤ cap) {lo hi : Option AV} {lo' hi' : Option Value} (hlo : ORelO G lo lo') (hhi : ORelO G hi hi') {l h : Nat} (hb : boundsA len lo hi = some (l, h)) (w : World) :
    (Instr.sliceBounds isS len cap lo' hi' none).run P w = .ok (l, h, cap) w ∧ l ≤ h ∧ h ≤ len := by
  unfold boundsA at hb
  split at hb
  · rename_i h' hh
    split at hb
    · rename_i l' hl
      cases hb
      rcases upTo_run hh with ⟨rfl, rfl⟩ | ⟨k, i, rfl, h0, h1, rfl⟩
      · simp only [ORelO] at hhi; subst hhi
        rcases upTo_run hl with ⟨rfl, rfl⟩ | ⟨k, i, rfl, h0, h1, rfl⟩
        · simp only [ORelO] at hlo; subst hlo
          exact ⟨by simp [Instr.sliceBounds], by omega, by omega⟩
        · obtain ⟨v, rfl, hv⟩ := hlo
          simp only [VRel] at hv; subst hv
          exact ⟨by simp [Instr.sliceBounds, sliceBound_run ⟨h0, h1⟩], by omega, by omega⟩
      · obtain ⟨v, rfl, hv⟩ := hhi
        simp only [VRel] at hv; subst hv
        have hcap : (0 : Int) ≤ i ∧ i ≤ cap := ⟨h0, by omega⟩
        rcases upTo_run hl with ⟨rfl, rfl⟩ | ⟨k, j, rfl, h2, h3, rfl⟩
        · simp only [ORelO] at hlo; subst hlo
          exact ⟨by simp [Instr.sliceBounds, sliceBound_run hcap], by omega, by omega⟩
        · obtain ⟨v, rfl, hv⟩ := hlo
          simp only [VRel] at hv; subst hv
          exact ⟨by simp [Instr.sliceBounds, sliceBound_run hcap, sliceBound_run ⟨h2, h3⟩], by omega, by omega⟩
    · cases hb
  · cases hb

theorem slstr_run {t : TypeId} (h1 : P.underlying t = some .string) {x v : AV} {x' : Value} {lo hi : Option AV} {lo' hi' : Option Value} (hx : VRel G x x') (hlo : ORelO G lo lo') (hhi : ORelO G hi hi')
    (h : slstrA x lo hi = some v) (w : World) : ∃ v', (Instr.sliceAt t x' lo' hi' none).run P w = .ok v' w ∧ VRel G v v' := by
  unfold slstrA at h
  split at h
  · rename_i s
    split at h
    · rename_i l h' hb
      cases h
      simp only [VRel] at hx; subst hx
      obtain ⟨hr, _, _⟩ := bounds_run (P := P) (isS := false) (Nat.le_refl _) hlo hhi hb w
      refine ⟨.string (s.extract l h'), ?_, by simp only [VRel]⟩
      simp [Instr.sliceAt, Instr.slice, run_underlying h1, hr]
    · cases h
  · cases h

theorem capA_run {len h : Nat} {clip c : Bool} {mx : Option AV} (hc : capA len h clip mx = some c) :
    (mx = none ∧ c = (clip && h == len)) ∨ ∃ k i, mx = some (.int k i) ∧ (h : Int) ≤ i ∧ i ≤ len ∧ c = (i == h) := by
  unfold capA at hc
  split at hc
  · cases hc; exact .inl ⟨rfl, rfl⟩
  · split at hc
    · rename_i hb; cases hc; exact .inr ⟨_, _, rfl, hb.1, hb.2, rfl⟩
    · cases hc
  · cases hc

/-- Bounds of a slice of a slice: l, h and the third one, m. -/
theorem bounds3_run {len cap : Nat} {clip : Bool} (hcap : len ≤ cap) (hclip : clip = true → cap = len) {lo hi mx : Option AV} {lo' hi' mx' : Option Value} (hlo : ORelO G lo lo') (hhi : ORelO G hi hi') (hmx : ORelO G mx mx')
    (himp : mx = none ∨ hi ≠ none) {l h : Nat} {c : Bool} (hb : boundsA len lo hi = some (l, h)) (hc : capA len h clip mx = some c) (w : World) :
    ∃ m, (Instr.sliceBounds true len cap lo' hi' mx').run P w = .ok (l, h, m) w ∧ l ≤ h ∧ h ≤ len ∧ h ≤ m ∧ m ≤ cap ∧ (c = true → m = h) := by
  rcases capA_run hc with ⟨rfl, rfl⟩ | ⟨k, i, rfl, h0, h1, rfl⟩
  · simp only [ORelO] at hmx; subst hmx
    obtain ⟨hr, a1, a2⟩ := bounds_run (P := P) (isS := true) hcap hlo hhi hb w
    refine ⟨cap, hr, a1, a2, by omega, Nat.le_refl _, fun e => ?_⟩
    simp only [Bool.and_eq_true, beq_iff_eq] at e
    have := hclip e.1; omega
  · obtain ⟨v, rfl, hv⟩ := hmx
    simp only [VRel] at hv; subst hv
    have himp : hi ≠ none := himp.resolve_left (by simp)
    have hm : (0 : Int) ≤ i ∧ i ≤ cap := ⟨by omega, by omega⟩
    unfold boundsA at hb
    split at hb
    · rename_i h' hh
      split at hb
      · rename_i l' hl
        cases hb
        rcases upTo_run hh with ⟨rfl, rfl⟩ | ⟨k', j, rfl, g0, g1, rfl⟩
        · exact absurd rfl himp
        · obtain ⟨v, rfl, hv⟩ := hhi
          simp only [VRel] at hv; subst hv
          have hj : (0 : Int) ≤ j ∧ j ≤ i.toNat := ⟨g0, by omega⟩
          refine ⟨i.toNat, ?_, ?_, by omega, by omega, by omega, fun e => by simp only [beq_iff_eq] at e; omega⟩
          · rcases upTo_run hl with ⟨rfl, rfl⟩ | ⟨k', q, rfl, q0, q1, rfl⟩
            · simp only [ORelO] at hlo; subst hlo
              simp [Instr.sliceBounds, sliceBound_run hm, sliceBound_run hj]
            · obtain ⟨v, rfl, hv⟩ := hlo
              simp only [VRel] at hv; subst hv
              simp [Instr.sliceBounds, sliceBound_run hm, sliceBound_run hj, sliceBound_run ⟨q0, q1⟩]
          · rcases upTo_run hl with ⟨rfl, rfl⟩ | ⟨k', q, rfl, q0, q1, rfl⟩ <;> omega
      · cases hb
    · cases hb

theorem drop_flatten {sz : Nat} : ∀ {l : Nat} {els : List (List AV)}, (∀ el ∈ els, el.length = sz) → (els.drop l).flatten = els.flatten.drop (l * sz)
  | 0, _, _ => by simp
  | l + 1, [], _ => by simp
  | l + 1, x :: xs, hu => by
    have hx : x.length = sz := hu x (by simp)
    have ih := drop_flatten (l := l) (els := xs) fun el h => hu el (by simp [h])
    simp only [List.drop_succ_cons, List.flatten_cons, ih]
    have e : (l + 1) * sz = x.length + l * sz := by rw [hx, Nat.succ_mul]; omega
    rw [e, List.drop_append]
    have e1 : List.drop (x.length + l * sz) x = [] := List.drop_eq_nil_of_le (by omega)
    rw [e1, Nat.add_sub_cancel_left]; rfl

theorem take_flatten {sz : Nat} : ∀ {n : Nat} {els : List (List AV)}, (∀ el ∈ els, el.length = sz) → (els.take n).flatten = els.flatten.take (n * sz)
  | 0, _, _ => by simp
  | n + 1, [], _ => by simp
  | n + 1, x :: xs, hu => by
    have hx : x.length = sz := hu x (by simp)
    have ih := take_flatten (n := n) (els := xs) fun el h => hu el (by simp [h])
    simp only [List.take_succ_cons, List.flatten_cons, ih]
    have e : (n + 1) * sz = x.length + n * sz := by rw [hx, Nat.succ_mul]; omega
    rw [e, List.take_append]
    have e1 : List.take (x.length + n * sz) x = x := List.take_of_length_le (by omega)
    rw [e1, Nat.add_sub_cancel_left]

theorem take_drop_flatten {sz l n : Nat} {els : List (List AV)} (hu : ∀ el ∈ els, el.length = sz) : ((els.drop l).take n).flatten = (els.flatten.drop (l * sz)).take (n * sz) := by
  rw [take_flatten fun el h => hu el (List.mem_of_mem_drop h), drop_flatten hu]

theorem LLRel.slice {els : List (List AV)} {vs : List Value} {sz l n : Nat} (hl : LLRel G els vs) (hu : ∀ x ∈ els, x.length = sz) : LLRel G ((els.drop l).take n) ((vs.drop (l * sz)).take (n * sz)) := by
  rw [LLRel.iff, take_drop_flatten hu]
  exact ((LLRel.iff.1 hl).drop _).take _

theorem Frz.slice {b o : Nat} {vs : List Value} (hf : Frz G b o vs) (l n : Nat) : Frz G b (o + l) ((vs.drop l).take n) := by
  intro j u hj
  rw [List.getElem?_take] at hj
  split at hj
  · rw [List.getElem?_drop] at hj
    rw [Nat.add_assoc]; exact hf _ _ hj
  · cases hj

theorem spot_add {a : Addr} (h : a.spot = none) (k : Nat) : (a.add k).spot = none := by
  unfold Addr.add
  split <;> simp [h]

theorem addm (ad : Addr) (b o k : Nat) (h : ad = ⟨b, o, none⟩) : ad.add k = ⟨b, o + k, none⟩ := by rw [h, add_addr]

theorem slsl_run {t elem : TypeId} {n : Nat} (h1 : P.underlying t = some (.slice elem)) (h2 : sizeT P elem = some n) {x v : AV} {x' : Value} {lo hi mx : Option AV} {lo' hi' mx' : Option Value}
    (hx : VRel G x x') (hlo : ORelO G lo lo') (hhi : ORelO G hi hi') (hmx : ORelO G mx mx') (himp : mx = none ∨ hi ≠ none)
    (h : slslA n x lo hi mx = some v) (w : World) : ∃ v', (Instr.sliceAt t x' lo' hi' mx').run P w = .ok v' w ∧ VRel G v v' := by
  have key : ∀ {a : Option Addr} {len cap : Nat} {clip : Bool} {l h : Nat} {c : Bool}, x' = .slice a len cap → len ≤ cap → (clip = true → cap = len) → boundsA len lo hi = some (l, h) → capA len h clip mx = some c →
      ∃ m, (Instr.sliceAt t x' lo' hi' mx').run P w = .ok (.slice (if m = l then a else a.map (·.add (l * n))) (h - l) (m - l)) w ∧ l ≤ h ∧ h ≤ len ∧ h ≤ m ∧ m ≤ cap ∧ (c = true → m = h) := by
    intro a len cap clip l h c e hle hclip hb hc
    obtain ⟨m, hr, r⟩ := bounds3_run (P := P) hle hclip hlo hhi hmx himp hb hc w
    refine ⟨m, ?_, r⟩
    subst e
    simp [Instr.sliceAt, Instr.slice, run_underlying h1, hr, run_size h2]
  unfold slslA at h
  split at h
  · simp only [VRel] at hx
    split at h
    · rename_i p q hb hc
      cases h
      obtain ⟨l, h'⟩ := p
      obtain ⟨-, k1, k2⟩ := bounds_run (P := P) (isS := false) (Nat.le_refl 0) hlo hhi hb w
      have hh0 : h' = 0 := by omega
      subst hh0
      obtain ⟨m, hr, c1, c2, c3, c4, c5⟩ := key (clip := true) hx (Nat.le_refl _) (fun _ => rfl) hb hc
      refine ⟨_, hr, ?_⟩
      have e1 : l = 0 := by omega
      have e3 : m = 0 := by omega
      subst e1 e3
      simp [VRel]
    · cases h
  · rename_i els clip
    split at h
    · rename_i l h' hb
      split at h
      · rename_i c hc
        split at h
        · rename_i hu
          cases h
          have hu : ∀ el ∈ els, el.length = n := fun el hel => by simpa using List.all_eq_true.1 hu el hel
          simp only [VRel] at hx
          obtain ⟨b, o, cap, sz, vs, e, d1, d2, d3, hf, lf, hl⟩ := hx
          obtain ⟨m, hr, c1, c2, c3, c4, c5⟩ := key e d1 d2 hb hc
          refine ⟨_, hr, ?_⟩
          have hlen : ((els.drop l).take (h' - l)).length = h' - l := by simp; omega
          by_cases hm : m = l
          · have : h' = l := by omega
            subst this
            rw [if_pos hm]
            refine ⟨b, o, m - h', n, [], by simp, by simp, fun hcc => by simp; omega, by simp, fun j u hj => by simp at hj, fun u hu => by simp at hu, by simp [LLRel]⟩
          · rw [if_neg hm]
            refine ⟨b, o + l * n, m - l, n, (vs.drop (l * n)).take ((h' - l) * n), ?_, ?_, fun hcc => ?_, fun el hel => hu el (List.mem_of_mem_drop (List.mem_of_mem_take hel)), hf.slice _ _, (lf.drop _).take _, hl.slice hu⟩
            · simp [hlen, add_addr]
            · rw [hlen]; omega
            · rw [hlen]; have := c5 hcc; omega
        · cases h
      · cases h
    · cases h
  · rename_i id ver sz off len clip
    split at h
    · rename_i l h' hb
      split at h
      · rename_i c hc
        split at h
        · rename_i hsz
          subst hsz
          cases h
          simp only [VRel] at hx
          obtain ⟨e0, e1, ad, cap, e, d1, d2, d3⟩ := hx
          obtain ⟨m, hr, c1, c2, c3, c4, c5⟩ := key e d1.1 d2 hb hc
          refine ⟨_, hr, e0, e1, if m = l then ad else ad.add (l * sz), m - l, by split <;> simp_all, ⟨by omega, by split <;> first | exact d1.2 | exact spot_add d1.2 _⟩, fun hcc => by have := c5 hcc; omega, fun hv => ?_⟩
          obtain ⟨f1, f2, f3⟩ := d3 hv
          refine ⟨f1, fun hpos => ?_, ?_⟩
          · rw [if_neg (by omega), addm _ _ _ _ (f2 (by omega)), Nat.add_mul, Nat.add_assoc]
          · have : (off + l) * sz + (m - l) * sz ≤ off * sz + cap * sz := by
              rw [← Nat.add_mul, ← Nat.add_mul]; exact Nat.mul_le_mul_right _ (by omega)
            omega
        · cases h
      · cases h
    · cases h
  · rename_i id sz off len
    split at h
    · rename_i l h' hb
      split at h
      · rename_i hsz
        subst hsz
        cases h
        simp only [VRel] at hx
        obtain ⟨e0, ad, cap, e, d1, d2⟩ := hx
        obtain ⟨m, hr, c1, c2, c3, c4, c5⟩ := key (clip := false) (c := false) e d1 (fun hh => by cases hh) hb (by simp [capA])
        refine ⟨_, hr, e0, if m = l then ad else ad.add (l * sz), m - l, by split <;> simp_all, by omega, fun hv hpos => ?_⟩
        rw [if_neg (by omega), addm _ _ _ _ (d2 hv (by omega))]
      · cases h
    · cases h
  · cases h

theorem chunks_flatten {sz : Nat} : ∀ {k : Nat} {cs : List AV}, k * sz ≤ cs.length → (chunks sz k cs).flatten = cs.take (k * sz)
  | 0, _, _ => by simp [chunks]
  | k + 1, cs, h => by
    have e : (k + 1) * sz = sz + k * sz := by rw [Nat.succ_mul]; omega
    simp only [chunks, List.flatten_cons]
    rw [chunks_flatten (k := k) (cs := cs.drop sz) (by simp; omega), e, List.take_add]

theorem chunks_uniform {sz : Nat} : ∀ {k : Nat} {cs : List AV}, k * sz ≤ cs.length → ∀ el ∈ chunks sz k cs, el.length = sz
  | 0, _, _ => by simp [chunks]
  | k + 1, cs, h => by
    have e : (k + 1) * sz = sz + k * sz := by rw [Nat.succ_mul]; omega
    intro el hel
    simp only [chunks, List.mem_cons] at hel
    rcases hel with rfl | hel
    · simp; omega
    · exact chunks_uniform (k := k) (cs := cs.drop sz) (by simp; omega) el hel

@[simp] theorem chunks_length {sz : Nat} : ∀ {k : Nat} {cs : List AV}, (chunks sz k cs).length = k
  | 0, _ => rfl
  | k + 1, _ => by simp [chunks, chunks_length]

theorem slarr_run (hw : WRel P B w₀ G σ w) (hg : GlobOk X B w₀) {t elem : TypeId} {n sz : Nat} (h1 : P.underlying t = some (.array n elem)) (h2 : sizeT P elem = some sz) {x v : AV} {x' : Value} {lo hi : Option AV} {lo' hi' : Option Value}
    (hx : VRel G x x') (hlo : ORelO G lo lo') (hhi : ORelO G hi hi') (h : slarrA X n sz x lo hi = some v) : ∃ v', (Instr.sliceAt t x' lo' hi' none).run P w = .ok v' w ∧ VRel G v v' := by
  unfold slarrA at h
  split at h
  · rename_i l h' hb
    obtain ⟨hr, c1, c2⟩ := bounds_run (P := P) (isS := false) (Nat.le_refl n) hlo hhi hb w
    have key : ∀ ad, x' = .pointer (some ad) → (Instr.sliceAt t x' lo' hi' none).run P w = .ok (.slice (some (if n = l then ad else ad.add (l * sz))) (h' - l) (n - l)) w := by
      rintro ad rfl
      simp [Instr.sliceAt, run_underlying h1, Instr.sureAddr, hr, run_size h2]
    have frozen : ∀ (b o : Nat) (cs : List AV) (vs : List Value) (off : Nat), x' = .pointer (some ⟨b, o + off, none⟩) → Frz G b o vs → Leaves vs → LRel G cs vs → off + n * sz ≤ cs.length →
        ∃ v', (Instr.sliceAt t x' lo' hi' none).run P w = .ok v' w ∧ VRel G (.sl (chunks sz (h' - l) (cs.drop (off + l * sz))) false) v' := by
      intro b o cs vs off e hf lf hl hle
      refine ⟨_, key _ e, ?_⟩
      have hln : l * sz + (h' - l) * sz ≤ n * sz := by rw [← Nat.add_mul]; exact Nat.mul_le_mul_right _ (by omega)
      have hle' : (h' - l) * sz ≤ (cs.drop (off + l * sz)).length := by simp; omega
      by_cases hn : n = l
      · rw [if_pos hn]
        have : h' = l := by omega
        subst this
        refine ⟨b, o + off, n - h', sz, [], by simp, by simp, (fun hc => by cases hc), by simp [chunks], (fun j u hj => by simp at hj), (fun u hu => by simp at hu), by simp [chunks, LLRel]⟩
      · rw [if_neg hn]
        refine ⟨b, o + (off + l * sz), n - l, sz, (vs.drop (off + l * sz)).take ((h' - l) * sz), ?_, (by rw [chunks_length]; omega), (fun hc => by cases hc), chunks_uniform hle', hf.slice _ _, (lf.drop _).take _, ?_⟩
        · simp [add_addr, Nat.add_assoc]
        · rw [LLRel.iff, chunks_flatten hle']
          exact (hl.drop _).take _
    split at h
    · rename_i id off
      cases h
      simp only [VRel] at hx
      obtain ⟨e0, ad, e, c⟩ := hx
      refine ⟨_, key ad e, e0, _, n - l, rfl, by omega, fun hv hpos => ?_⟩
      rw [if_neg (by omega), addm _ _ _ _ (c hv)]
    · rename_i cs off
      split at h
      · rename_i hle
        cases h
        simp only [VRel] at hx
        obtain ⟨b, o, vs, e, hf, lf, hl⟩ := hx
        exact frozen b o cs vs off e hf lf hl hle
      · cases h
    · rename_i g
      split at h
      · rename_i cs hgl
        split at h
        · rename_i hle
          cases h
          simp only [VRel] at hx
          obtain ⟨vs, hf, lf, hl⟩ := hg.rel hw hgl
          have := frozen g 0 cs vs 0 (by simpa using hx) hf lf hl (by omega)
          simpa using this
        · cases h
      · cases h
    · cases h
  · cases h

end Go.Den

/- Den: operations that leave the world alone: numbers, strings, comparisons, interfaces. -/
namespace Go.Den
open Go Go.RowKit

variable {P : Program} {X : Ctx} {B : Nat} {w₀ : World}
variable {G : Gh} {σ : AS} {w : World}

theorem zeroT_rel {t : TypeId} {z : AV} (h : zeroT P t = some z) (G : Gh) (w : World) : ∃ z', (zeroValue t).run P w = .ok z' w ∧ zeroV P t = some z' ∧ VRel G z z' := by
  unfold zeroT at h
  split at h
  · rename_i v hv
    split at h
    · rename_i hc
      cases h
      refine ⟨v, ?_, hv, ofValue_rel v hc⟩
      unfold zeroV at hv
      cases hi : P.info? t with
      | none => simp [hi] at hv
      | some i =>
        simp only [hi, Option.bind_some] at hv
        simp only [zeroValue, Sem.run_bind, run_typeInfo _ hi, Result.andThen_ok, hv, Sem.run_pure]
    · cases h
  · cases h

theorem zcells_rel {t : TypeId} {z : List AV} (h : zcells P t = some z) (G : Gh) (w : World) :
    ∃ z', (zeroValue t).run P w = .ok z' w ∧ zeroV P t = some z' ∧ LRel G z z'.cells.toList ∧ Leaves z'.cells.toList ∧ sizeT P t = some z.length := by
  unfold zcells at h
  split at h
  · rename_i y n h1 h2
    split at h
    · rename_i hc
      cases h
      obtain ⟨z', e, e', r⟩ := zeroT_rel h1 G w
      obtain ⟨l, lf⟩ := r.cells hc.1
      exact ⟨z', e, e', l, lf, by rw [h2, hc.2]⟩
    · cases h
  · cases h

/-! Numbers and strings. -/

theorem str_max : IntKind.i64.max = 9223372036854775807 := by decide

theorem exInt {s : Sem Value} {k : IntKind} {n : Int} {w : World} (h : s.run P w = .ok (.int k n) w) : ∃ v', s.run P w = .ok v' w ∧ VRel G (.int k n) v' := ⟨_, h, by simp [VRel]⟩
theorem exBool {s : Sem Value} {b : Bool} {w : World} (h : s.run P w = .ok (.bool b) w) : ∃ v', s.run P w = .ok v' w ∧ VRel G (.bool b) v' := ⟨_, h, by simp [VRel]⟩
theorem exStr {s : Sem Value} {b : ByteArray} {w : World} (h : s.run P w = .ok (.string b) w) : ∃ v', s.run P w = .ok v' w ∧ VRel G (.str b) v' := ⟨_, h, by simp [VRel]⟩

theorem bin_run {op : BinOp} {t : TypeId} {x y v : AV} {x' y' : Value} (hx : VRel G x x') (hy : VRel G y y') (h : binA op x y = some v) (ho : op ≠ .eql) (ho' : op ≠ .neq) (w : World) :
    ∃ v', (binOp op t x' y').run P w = .ok v' w ∧ VRel G v v' := by
  unfold binA at h
  split at h
  · rename_i k a k' b
    split at h
    · rename_i hk
      subst hk
      simp only [VRel] at hx hy
      subst hx hy
      cases op <;> simp [intA, bitsA] at h <;> (try exact absurd rfl ho) <;> (try exact absurd rfl ho')
      all_goals
        first
          | (subst h; exact exInt (by simp [binOp, Op.intArith, Op.intBits]))
          | (subst h; exact exBool (by simp [binOp, Op.intCmp]))
          | (obtain ⟨h0, rfl⟩ := h; exact exInt (by simp [binOp, Op.intDiv, h0]))
    · cases h
  · rename_i a b
    simp only [VRel] at hx hy
    subst hx hy
    cases op <;> simp [strA] at h <;> (try exact absurd rfl ho) <;> (try exact absurd rfl ho')
    all_goals
      first
        | (subst h; exact exBool (by simp [binOp, Op.stringOp]))
        | (obtain ⟨h0, rfl⟩ := h
           refine ⟨.string (a ++ b), ?_, by simp [VRel]⟩
           simp only [binOp, Op.stringOp, Sem.run_ite]
           rw [if_neg (by rw [str_max]; simp only [strRoom] at h0; omega)]
           simp)
  · cases h

theorem shf_run {op : BinOp} {t : TypeId} {k k' : IntKind} {a b : Int} {v : AV} (h : shiftA op k a b = some v) (w : World) :
    ∃ v', (binOp op t (.int k a) (.int k' b)).run P w = .ok v' w ∧ VRel G v v' := by
  unfold shiftA at h
  split at h
  · cases h
  · rename_i hb
    split at h
    · cases h; exact exInt (by simp [binOp, Op.shift, hb])
    · cases h; exact exInt (by simp [binOp, Op.shift, hb])
    · cases h

theorem un_run {op : UnOp} {x v : AV} {x' : Value} (hx : VRel G x x') (h : unA op x = some v) (w : World) : ∃ v', (Op.unary op x').run P w = .ok v' w ∧ VRel G v v' := by
  unfold unA at h
  split at h
  · cases h; simp only [VRel] at hx; subst hx
    exact exInt (by simp [Op.unary, Op.intArith])
  · simp only [bitsA, Option.some.injEq] at h; subst h; simp only [VRel] at hx; subst hx
    exact exInt (by simp [Op.unary, Op.intBits])
  · cases h; simp only [VRel] at hx; subst hx
    exact exBool (by simp [Op.unary])
  · cases h

theorem conv_run {s d : TypeId} {k q : IntKind} {n : Int} (hs : (P.underlying s).isSome = true) (hd : P.underlying d = some (.int k)) (w : World) :
    (convert s d (.int q n)).run P w = .ok (.int k (k.wrap n)) w := by
  cases hu : P.underlying s with
  | none => simp [hu] at hs
  | some u => simp [convert, run_underlying hu, run_underlying hd, Conv.intToInt]

theorem convs_run {s d : TypeId} {b : ByteArray} (hs : P.underlying s = some .string) (hd : P.underlying d = some .string) (w : World) :
    (convert s d (.string b)).run P w = .ok (.string b) w := by
  simp [convert, run_underlying hs, run_underlying hd]

/-! Comparisons. -/

theorem isPtr_rel {b : AV} {b' : Value} (h : b.isPtr = true) (r : VRel G b b') : ∃ a, b' = .pointer (some a) := by
  cases b <;> simp [AV.isPtr] at h <;> simp only [VRel] at r
  · obtain ⟨_, a, e, _⟩ := r; exact ⟨a, e⟩
  · obtain ⟨_, _, a, e, _⟩ := r; exact ⟨a, e⟩
  · obtain ⟨b, o, vs, e, _⟩ := r; exact ⟨_, e⟩
  · exact ⟨_, r⟩

theorem isSl_rel {b : AV} {b' : Value} (h : b.isSl = true) (r : VRel G b b') : ∃ a n c, b' = .slice (some a) n c := by
  cases b <;> simp [AV.isSl] at h <;> simp only [VRel] at r
  · obtain ⟨b, o, cap, sz, vs, e, _⟩ := r; exact ⟨_, _, _, e⟩
  · obtain ⟨_, _, a, cap, e, _⟩ := r; exact ⟨_, _, _, e⟩
  · obtain ⟨_, a, cap, e, _⟩ := r; exact ⟨_, _, _, e⟩

/-- A type's kind: does it tell what the model compares? -/
def kindOk : EK → TypeDesc → Prop
  | .bool, d => d = .bool
  | .int, d => ∃ k, d = .int k
  | .str, d => d = .string
  | .ptr, d => ∃ e, d = .pointer e
  | .sl, d => ∃ e, d = .slice e
  | .map, d => ∃ k e, d = .map k e
  | .cap, _ => False
  | .fn, d => ∃ a b c, d = .func a b c
  | .ifc, d => ∃ ms, d = .interface ms
  | .ife _, d => ∃ ms, d = .interface ms
  | .agg _, _ => False

/-- A type of integers that may be compared. -/
def intOk (P : Program) (t : TypeId) : Prop := ∃ i q, P.info? t = some i ∧ i.comparable = true ∧ P.underlying t = some (.int q)

theorem equalIn_ifaces {t tx ty : TypeId} {ms : Array (String × TypeId)} (hu : P.underlying t = some (.interface ms)) (d : Nat) (vx vy : Value) (w : World) {r : Bool}
    (h : tx ≠ ty → r = false) (h' : tx = ty → ∃ i, P.info? tx = some i ∧ i.comparable = true ∧ (Op.equalIn d tx vx vy).run P w = .ok r w) : (Op.equalIn (d + 1) t (.iface tx vx) (.iface ty vy)).run P w = .ok r w := by
  rw [Op.equalIn]
  simp only [Sem.run_bind, run_underlying hu, Result.andThen_ok]
  by_cases ht : tx = ty
  · subst ht
    obtain ⟨i, h1, h2, h3⟩ := h' rfl
    simp [typeInfo, h1, h2, h3]
  · rw [h ht]
    simp [ht]

theorem eqP_run {k : EK} {t : TypeId} {u : TypeDesc} {x y : AV} {x' y' : Value} {r : Bool} (hu : P.underlying t = some u) (hk : kindOk k u) (hx : VRel G x x') (hy : VRel G y y') (h : eqP k x y = some r) (d : Nat) (w : World) (hi : ∀ ts, k = .ife ts → 1 ≤ d ∧ ∀ t ∈ ts, intOk P t) :
    (Op.equalIn (d + 1) t x' y').run P w = .ok r w := by
  unfold eqP at h
  split at h
  case h_1 =>
    cases h; simp only [VRel] at hx hy; subst hx hy; simp only [kindOk] at hk; subst hk
    exact run_equalIn_bool w d t _ _ hu
  case h_2 =>
    split at h
    · rename_i e; subst e; cases h; simp only [VRel] at hx hy; subst hx hy; obtain ⟨k', rfl⟩ := hk
      exact run_equalIn_int w d t _ _ _ _ hu
    · cases h
  case h_3 =>
    cases h; simp only [VRel] at hx hy; subst hx hy; simp only [kindOk] at hk; subst hk
    exact run_equalIn_string w d t _ _ hu
  case h_4 =>
    cases h; simp only [VRel] at hx hy; subst hx hy; obtain ⟨e, rfl⟩ := hk
    simp [Op.equalIn, run_underlying hu]
  case h_5 =>
    split at h
    · rename_i hp; cases h; simp only [VRel] at hx; subst hx; obtain ⟨e, rfl⟩ := hk
      obtain ⟨a, rfl⟩ := isPtr_rel hp hy
      simp [Op.equalIn, run_underlying hu]
    · cases h
  case h_6 =>
    split at h
    · rename_i hp; cases h; simp only [VRel] at hy; subst hy; obtain ⟨e, rfl⟩ := hk
      obtain ⟨a, rfl⟩ := isPtr_rel hp hx
      simp [Op.equalIn, run_underlying hu]
    · cases h
  case h_7 =>
    cases h; simp only [VRel] at hx hy; subst hx hy; obtain ⟨e, rfl⟩ := hk
    simp [Op.equalIn, run_underlying hu]
  case h_8 =>
    split at h
    · rename_i hp; cases h; simp only [VRel] at hx; subst hx; obtain ⟨e, rfl⟩ := hk
      obtain ⟨a, n, c, rfl⟩ := isSl_rel hp hy
      simp [Op.equalIn, run_underlying hu]
    · cases h
  case h_9 =>
    split at h
    · rename_i hp; cases h; simp only [VRel] at hy; subst hy; obtain ⟨e, rfl⟩ := hk
      obtain ⟨a, n, c, rfl⟩ := isSl_rel hp hx
      simp [Op.equalIn, run_underlying hu]
    · cases h
  case h_10 =>
    cases h; simp only [VRel] at hx hy; subst hx hy; obtain ⟨_, _, rfl⟩ := hk
    simp [Op.equalIn, run_underlying hu]
  case h_11 =>
    cases h; simp only [VRel] at hx hy; subst hx; obtain ⟨_, _, rfl, _⟩ := hy; obtain ⟨_, _, rfl⟩ := hk
    simp [Op.equalIn, run_underlying hu]
  case h_12 =>
    cases h; simp only [VRel] at hx hy; subst hy; obtain ⟨_, _, rfl, _⟩ := hx; obtain ⟨_, _, rfl⟩ := hk
    simp [Op.equalIn, run_underlying hu]
  case h_13 =>
    cases h; simp only [VRel] at hx hy; subst hx hy; obtain ⟨_, _, _, rfl⟩ := hk
    simp [Op.equalIn, run_underlying hu]
  case h_14 =>
    cases h; simp only [VRel] at hx hy; subst hx; obtain ⟨_, _, _, rfl, _⟩ := hy; obtain ⟨_, _, _, rfl⟩ := hk
    simp [Op.equalIn, run_underlying hu]
  case h_15 =>
    cases h; simp only [VRel] at hx hy; subst hy; obtain ⟨_, _, _, rfl, _⟩ := hx; obtain ⟨_, _, _, rfl⟩ := hk
    simp [Op.equalIn, run_underlying hu]
  case h_16 =>
    cases h; simp only [VRel] at hx hy; subst hx hy; obtain ⟨_, rfl⟩ := hk
    simp [Op.equalIn, run_underlying hu]
  case h_17 =>
    cases h; simp only [VRel] at hx hy; subst hx; obtain ⟨_, rfl, _⟩ := hy; obtain ⟨_, rfl⟩ := hk
    simp [Op.equalIn, run_underlying hu]
  case h_18 =>
    cases h; simp only [VRel] at hx hy; subst hy; obtain ⟨_, rfl, _⟩ := hx; obtain ⟨_, rfl⟩ := hk
    simp [Op.equalIn, run_underlying hu]
  case h_19 =>
    rename_i ts tx q a ty q' b
    simp only [VRel] at hx hy
    obtain ⟨_, rfl, rfl⟩ := hx
    obtain ⟨_, rfl, rfl⟩ := hy
    obtain ⟨ms, rfl⟩ := hk
    obtain ⟨hd, hts⟩ := hi ts rfl
    split at h
    · rename_i ht
      subst ht
      split at h
      · rename_i hc
        obtain ⟨hc, rfl⟩ := hc
        cases h
        obtain ⟨i, q', hi1, hi2, hi3⟩ := hts tx (by simpa using hc)
        obtain ⟨d', rfl⟩ : ∃ d', d = d' + 1 := ⟨d - 1, by omega⟩
        exact equalIn_ifaces hu _ _ _ w (fun e => absurd rfl e) fun _ => ⟨i, hi1, hi2, run_equalIn_int w d' tx q q' a b hi3⟩
      · cases h
    · rename_i ht
      cases h
      exact equalIn_ifaces hu _ _ _ w (fun _ => rfl) fun e => absurd e ht
  case h_20 => cases h


theorem eqAL_append {k₁ k₂ : List EK} {a b : List AV} {r : Bool} (ha : a.length = (k₁ ++ k₂).length) (hb : b.length = (k₁ ++ k₂).length) (h : eqAL (k₁ ++ k₂) a b = some r) :
    ∃ r₁, eqAL k₁ (a.take k₁.length) (b.take k₁.length) = some r₁ ∧ (r₁ = false → r = false) ∧ (r₁ = true → eqAL k₂ (a.drop k₁.length) (b.drop k₁.length) = some r) := by
  induction k₁ generalizing a b with
  | nil => exact ⟨true, by simp [eqAL], by simp, fun _ => by simpa using h⟩
  | cons k ks ih =>
    cases a with
    | nil => simp at ha
    | cons x xs =>
      cases b with
      | nil => simp at hb
      | cons y ys =>
        simp only [List.cons_append, eqAL] at h
        simp only [List.length_cons, List.take_succ_cons, List.drop_succ_cons, eqAL]
        split at h
        · exact ih (by simpa using ha) (by simpa using hb) h
        · cases h
          exact ⟨false, rfl, fun _ => rfl, fun h => by cases h⟩
        · cases h

def aggD : TypeDesc → Bool
  | .struct _ | .array _ _ => true
  | _ => false

theorem aggT_of {t : TypeId} {u : TypeDesc} (h : P.underlying t = some u) : aggT P t = some (aggD u) := by
  unfold aggT; rw [h]; cases u <;> rfl

/-- Values of a type with known cells are compared cell by cell. -/
def CellsAt (P : Program) (d : Nat) (t : TypeId) (ks : List EK) : Prop :=
  ∀ (D : Nat), d ≤ D → ∀ (G : Gh) (w : World) (xs ys : Array Value) (as bs : List AV) (off : Nat) (r : Bool), sizeT P t = some ks.length → LRel G as xs.toList → LRel G bs ys.toList → Leaves xs.toList → Leaves ys.toList →
    off + ks.length ≤ as.length → off + ks.length ≤ bs.length → eqAL ks ((as.drop off).take ks.length) ((bs.drop off).take ks.length) = some r →
    ∃ x y, (Go.part t xs off).run P w = .ok x w ∧ (Go.part t ys off).run P w = .ok y w ∧ (Op.equalIn D t x y).run P w = .ok r w

theorem eqFields_run {d : Nat} (IH : ∀ t ks, eqCells P d t = some ks → CellsAt P d t ks) : ∀ (fs : List Field) (off : Nat) (ks : List EK), eqFieldsC P (eqCells P d) fs off = some ks →
    ∀ (D : Nat), d ≤ D → ∀ (G : Gh) (w : World) (xs ys : Array Value) (as bs : List AV) (r : Bool), LRel G as xs.toList → LRel G bs ys.toList → Leaves xs.toList → Leaves ys.toList →
    off + ks.length ≤ as.length → off + ks.length ≤ bs.length → eqAL ks ((as.drop off).take ks.length) ((bs.drop off).take ks.length) = some r →
    (Op.eqFields D xs ys fs).run P w = .ok r w := by
  intro fs
  induction fs with
  | nil =>
    intro off ks h D hD G w xs ys as bs r _ _ _ _ _ _ he
    simp only [eqFieldsC, Option.some.injEq] at h
    subst h
    simp [eqAL] at he
    subst he
    simp [Op.eqFields]
  | cons f fs ih =>
    intro off ks h D hD G w xs ys as bs r l1 l2 f1 f2 h1 h2 he
    simp only [eqFieldsC] at h
    split at h
    · rename_i k1 hk1
      split at h
      · rename_i hc
        obtain ⟨hn, ho, hs⟩ := hc
        cases hk2 : eqFieldsC P (eqCells P d) fs (off + k1.length) with
        | none => simp [hk2] at h
        | some k2 =>
          simp only [hk2, Option.map_some, Option.some.injEq] at h
          subst h
          simp only [List.length_append] at h1 h2
          obtain ⟨r1, e1, e2, e3⟩ := eqAL_append (by simp; omega) (by simp; omega) he
          rw [List.take_take, List.take_take, List.length_append, Nat.min_eq_left (Nat.le_add_right _ _)] at e1
          obtain ⟨x, y, p1, p2, p3⟩ := IH f.type k1 hk1 D hD G w xs ys as bs off r1 hs l1 l2 f1 f2 (by omega) (by omega) e1
          simp only [Op.eqFields, ho]
          rw [if_pos hn]
          simp only [Sem.run_bind, p1, p2, p3, Result.andThen_ok]
          cases r1 with
          | false => simp [e2 rfl]
          | true =>
            simp only [Bool.not_true, Bool.false_eq_true, if_false]
            have e4 := e3 rfl
            rw [List.drop_take, List.drop_take, List.drop_drop, List.drop_drop, List.length_append, Nat.add_sub_cancel_left] at e4
            exact ih (off + k1.length) k2 hk2 D hD G w xs ys as bs r l1 l2 f1 f2 (by omega) (by omega) e4
      · cases h
    · cases h

theorem prim_cells {d : Nat} {t : TypeId} {u : TypeDesc} {k : EK} (hu : P.underlying t = some u) (hk : kindOk k u) (ha : aggT P t = some false) (hn : ∀ ts, k ≠ .ife ts) : CellsAt P (d + 1) t [k] := by
  intro D hD G w xs ys as bs off r hs l1 l2 f1 f2 h1 h2 he
  simp only [List.length_singleton] at h1 h2 he
  have a1 : as[off]? = some (as[off]'(by omega)) := List.getElem?_eq_getElem _
  have b1 : bs[off]? = some (bs[off]'(by omega)) := List.getElem?_eq_getElem _
  obtain ⟨x, hx, rx⟩ := l1.get off _ a1
  obtain ⟨y, hy, ry⟩ := l2.get off _ b1
  have e1 : (as.drop off).take 1 = [as[off]'(by omega)] := by rw [List.drop_eq_getElem_cons (by omega)]; rfl
  have e2 : (bs.drop off).take 1 = [bs[off]'(by omega)] := by rw [List.drop_eq_getElem_cons (by omega)]; rfl
  rw [e1, e2] at he
  have he' : eqP k as[off] bs[off] = some r := by
    simp only [eqAL] at he
    split at he
    · rename_i h; rw [h]; exact he
    · rename_i h; rw [h]; exact he
    · cases he
  have hx' : xs[off]? = some x := by simpa using hx
  have hy' : ys[off]? = some y := by simpa using hy
  refine ⟨x, y, by simp [Go.part, run_agg ha, hx'], by simp [Go.part, run_agg ha, hy'], ?_⟩
  obtain ⟨D', rfl⟩ : ∃ D', D = D' + 1 := ⟨D - 1, by omega⟩
  exact eqP_run hu hk rx ry he' D' w (fun ts e => absurd e (hn ts))

theorem eqItems_run {D : Nat} {e : TypeId} {ks : List EK} (IH : CellsAt P D e ks) (hs : sizeT P e = some ks.length) {G : Gh} {w : World} {xs ys : Array Value} {as bs : List AV} (l1 : LRel G as xs.toList) (l2 : LRel G bs ys.toList) (f1 : Leaves xs.toList) (f2 : Leaves ys.toList) :
    ∀ (m j : Nat) (r : Bool), (j + m) * ks.length ≤ as.length → (j + m) * ks.length ≤ bs.length → eqAL (List.replicate m ks).flatten ((as.drop (j * ks.length)).take (m * ks.length)) ((bs.drop (j * ks.length)).take (m * ks.length)) = some r →
    (Op.eqItems D e ks.length xs ys (List.range' j m)).run P w = .ok r w
  | 0, j, r, _, _, he => by
    simp [eqAL] at he
    subst he
    simp [Op.eqItems]
  | m + 1, j, r, h1, h2, he => by
    have hm : (m + 1) * ks.length = ks.length + m * ks.length := by rw [Nat.succ_mul]; omega
    have hj : (j + (m + 1)) * ks.length = j * ks.length + (ks.length + m * ks.length) := by rw [Nat.add_mul, hm]
    rw [hj] at h1 h2
    rw [List.replicate_succ, List.flatten_cons, hm] at he
    obtain ⟨r1, e1, e2, e3⟩ := eqAL_append (by simp; omega) (by simp; omega) he
    rw [List.take_take, List.take_take, Nat.min_eq_left (Nat.le_add_right _ _)] at e1
    obtain ⟨x, y, p1, p2, p3⟩ := IH D (Nat.le_refl _) G w xs ys as bs (j * ks.length) r1 hs l1 l2 f1 f2 (by omega) (by omega) e1
    rw [List.range'_succ]
    simp only [Op.eqItems, Sem.run_bind, p1, p2, p3, Result.andThen_ok]
    cases r1 with
    | false => simp [e2 rfl]
    | true =>
      simp only [Bool.not_true, Bool.false_eq_true, if_false]
      have e4 := e3 rfl
      rw [List.drop_take, List.drop_take, List.drop_drop, List.drop_drop, Nat.add_sub_cancel_left] at e4
      have hj1 : (j + 1) * ks.length = j * ks.length + ks.length := Nat.succ_mul _ _
      refine eqItems_run IH hs l1 l2 f1 f2 m (j + 1) r ?_ ?_ ?_
      · have : (j + 1 + m) * ks.length = j * ks.length + (ks.length + m * ks.length) := by rw [Nat.add_mul, hj1]; omega
        omega
      · have : (j + 1 + m) * ks.length = j * ks.length + (ks.length + m * ks.length) := by rw [Nat.add_mul, hj1]; omega
        omega
      · rw [hj1]; exact e4

theorem eqCells_run : ∀ (d : Nat) (t : TypeId) (ks : List EK), eqCells P d t = some ks → CellsAt P d t ks
  | 0, _, _, h => by simp [eqCells] at h
  | d + 1, t, ks, h => by
    simp only [eqCells] at h
    split at h
    · rename_i hu; cases h; exact prim_cells (k := .bool) hu rfl (aggT_of hu) (by simp)
    · rename_i hu; cases h; exact prim_cells (k := .int) hu ⟨_, rfl⟩ (aggT_of hu) (by simp)
    · rename_i hu; cases h; exact prim_cells (k := .str) hu rfl (aggT_of hu) (by simp)
    · rename_i fields hu
      split at h
      · rename_i hp
        intro D hD G w xs ys as bs off r hs l1 l2 f1 f2 h1 h2 he
        have hx : (Go.part t xs off).run P w = .ok (.agg (xs.extract off (off + ks.length))) w := by simp [Go.part, run_agg (aggT_of hu), run_size hs, aggD]
        have hy : (Go.part t ys off).run P w = .ok (.agg (ys.extract off (off + ks.length))) w := by simp [Go.part, run_agg (aggT_of hu), run_size hs, aggD]
        refine ⟨_, _, hx, hy, ?_⟩
        obtain ⟨D', rfl⟩ : ∃ D', D = D' + 1 := ⟨D - 1, by omega⟩
        have hf : P.fieldsOf t = fields := by simp [Program.fieldsOf, hu]
        rw [run_equalIn_struct w D' t _ _ (by rw [hf]; exact hu) hp, hf]
        have ex : (xs.extract off (off + ks.length)).toList = (xs.toList.drop off).take ks.length := by rw [Array.toList_extract, List.extract_eq_take_drop]; simp
        have ey : (ys.extract off (off + ks.length)).toList = (ys.toList.drop off).take ks.length := by rw [Array.toList_extract, List.extract_eq_take_drop]; simp
        refine eqFields_run (fun t ks h => eqCells_run d t ks h) fields.toList 0 ks h D' (by omega) G w _ _ ((as.drop off).take ks.length) ((bs.drop off).take ks.length) r (by rw [ex]; exact (l1.drop _).take _) (by rw [ey]; exact (l2.drop _).take _)
          (by rw [ex]; exact (f1.drop _).take _) (by rw [ey]; exact (f2.drop _).take _) (by simp; omega) (by simp; omega) ?_
        rw [List.drop_zero, List.drop_zero, List.take_take, List.take_take, Nat.min_self]
        exact he
      · cases h
    · rename_i n e hu
      split at h
      · rename_i ks' hk
        split at h
        · rename_i hc
          obtain ⟨hes, _⟩ := hc
          cases h
          intro D hD G w xs ys as bs off r hs l1 l2 f1 f2 h1 h2 he
          have hfl : (List.replicate n ks').flatten.length = n * ks'.length := by simp
          rw [hfl] at h1 h2 he hs
          have hx : (Go.part t xs off).run P w = .ok (.agg (xs.extract off (off + n * ks'.length))) w := by simp [Go.part, run_agg (aggT_of hu), run_size hs, aggD]
          have hy : (Go.part t ys off).run P w = .ok (.agg (ys.extract off (off + n * ks'.length))) w := by simp [Go.part, run_agg (aggT_of hu), run_size hs, aggD]
          refine ⟨_, _, hx, hy, ?_⟩
          obtain ⟨D', rfl⟩ : ∃ D', D = D' + 1 := ⟨D - 1, by omega⟩
          have hes' := hes
          unfold sizeT at hes'
          obtain ⟨i, hi, hsz⟩ := Option.map_eq_some_iff.1 hes'
          rw [run_equalIn_array w D' _ _ hu hi]
          have hcell : P.cellsOf e = ks'.length := by
            unfold Program.cellsOf
            rw [hes']; rfl
          rw [hcell, List.range_eq_range']
          have ex : (xs.extract off (off + n * ks'.length)).toList = (xs.toList.drop off).take (n * ks'.length) := by rw [Array.toList_extract, List.extract_eq_take_drop]; simp
          have ey : (ys.extract off (off + n * ks'.length)).toList = (ys.toList.drop off).take (n * ks'.length) := by rw [Array.toList_extract, List.extract_eq_take_drop]; simp
          refine eqItems_run (as := (as.drop off).take (n * ks'.length)) (bs := (bs.drop off).take (n * ks'.length)) (fun D'' hD'' => eqCells_run d e ks' hk D'' (by omega)) hes (by rw [ex]; exact (l1.drop _).take _) (by rw [ey]; exact (l2.drop _).take _)
            (by rw [ex]; exact (f1.drop _).take _) (by rw [ey]; exact (f2.drop _).take _) n 0 r (by simp; omega) (by simp; omega) ?_
          rw [Nat.zero_mul, List.drop_zero, List.drop_zero, List.take_take, List.take_take, Nat.min_self]
          exact he
        · cases h
      · cases h
    · cases h

end Go.Den

/- Den: operations that leave the world alone: comparisons with the guard, interfaces, lengths, structs that are built. -/
namespace Go.Den
open Go Go.RowKit

variable {P : Program} {X : Ctx} {B : Nat} {w₀ : World}
variable {G : Gh} {σ : AS} {w : World}

def isC : Operand → Bool
  | .const _ => true
  | _ => false

theorem eqGuard_run (op : BinOp) (t : TypeId) (x y : Operand) (a b : Value) (h1 : a = .nilIface → b = .nilIface → (isC x || isC y) = true) (h2 : ∀ xs ys, a = .agg xs → b = .agg ys → P.eqGuardType P.depth t = false) (w : World) :
    (eqGuard op t x y a b).run P w = .ok () w := by
  cases op <;> (try (simp [eqGuard]; done)) <;> cases a <;> (try (simp [eqGuard]; done)) <;> cases b <;> (try (simp [eqGuard]; done))
  all_goals first
    | (have h := h2 _ _ rfl rfl; simp [eqGuard, run_program, h]; done)
    | (have h := h1 rfl rfl; cases x <;> cases y <;> simp [isC] at h <;> simp [eqGuard])

/-- Neither a number nor a string. -/
def noNum : Value → Bool
  | .int _ _ | .float _ _ | .complex _ _ _ | .string _ => false
  | _ => true

theorem binOp_eql {x y : Value} (hx : noNum x = true) (t : TypeId) : binOp .eql t x y = (do pure (.bool (← Op.equal t x y))) := by
  cases x <;> simp [noNum] at hx <;> first | rfl | (cases y <;> rfl)

theorem binOp_neq {x y : Value} (hx : noNum x = true) (t : TypeId) : binOp .neq t x y = (do pure (.bool (!(← Op.equal t x y)))) := by
  cases x <;> simp [noNum] at hx <;> first | rfl | (cases y <;> rfl)

def noNumA : AV → Bool
  | .int _ _ | .str _ | .tup _ | .junk => false
  | _ => true

theorem noNumA_rel {x : AV} {x' : Value} (h : noNumA x = true) (r : VRel G x x') : noNum x' = true := by
  cases x <;> simp [noNumA] at h <;> simp only [VRel] at r
  all_goals first
    | (subst r; rfl)
    | (obtain ⟨_, rfl, _⟩ := r; rfl)
    | (obtain ⟨_, _, rfl, _⟩ := r; rfl)
    | (obtain ⟨_, _, _, rfl, _⟩ := r; rfl)
    | (obtain ⟨_, _, _, _, rfl, _⟩ := r; rfl)
    | (obtain ⟨_, _, _, _, _, rfl, _⟩ := r; rfl)
    | (obtain ⟨⟨_, rfl⟩, _⟩ := r; rfl)

theorem isAgg_rel {x : AV} {xs : Array Value} (h : x.isTup = false) (r : VRel G x (.agg xs)) : ∃ cs, x = .agg cs := by
  cases x <;> simp [AV.isTup] at h <;> simp [VRel] at r
  exact ⟨_, rfl⟩

/-- What a comparison's kind says of its type. -/
theorem eqKind_of {t : TypeId} {x y : Operand} {k : EK} (h : eqKind P t x y = some k) :
    (∃ u, P.underlying t = some u ∧ kindOk k u ∧ (k = .ifc → (isC x || isC y) = true) ∧ ∀ ts, k = .ife ts → ∀ t ∈ ts, intOk P t) ∨
    (∃ ks u, P.underlying t = some u ∧ aggD u = true ∧ k = .agg ks ∧ eqCells P 10 t = some ks ∧ P.eqGuardType P.depth t = false) := by
  unfold eqKind at h
  split at h
  · rename_i hu; cases h; exact .inl ⟨_, hu, rfl, by simp, by simp⟩
  · rename_i hu; cases h; exact .inl ⟨_, hu, ⟨_, rfl⟩, by simp, by simp⟩
  · rename_i hu; cases h; exact .inl ⟨_, hu, rfl, by simp, by simp⟩
  · rename_i hu; cases h; exact .inl ⟨_, hu, ⟨_, rfl⟩, by simp, by simp⟩
  · rename_i hu; cases h; exact .inl ⟨_, hu, ⟨_, rfl⟩, by simp, by simp⟩
  · rename_i hu; cases h; exact .inl ⟨_, hu, ⟨_, _, rfl⟩, by simp, by simp⟩
  · rename_i hu; cases h; exact .inl ⟨_, hu, ⟨_, _, _, rfl⟩, by simp, by simp⟩
  · rename_i hu
    split at h
    · cases h; exact .inl ⟨_, hu, ⟨_, rfl⟩, by simp [isC], by simp⟩
    · cases h; exact .inl ⟨_, hu, ⟨_, rfl⟩, by simp [isC], by simp⟩
    · cases h
      refine .inl ⟨_, hu, ⟨_, rfl⟩, by simp, fun ts hts t ht => ?_⟩
      cases hts
      simp only [intTypes, List.mem_filter] at ht
      obtain ⟨_, ht⟩ := ht
      split at ht
      · rename_i i q h1 h2
        exact ⟨i, q, h1, ht, h2⟩
      · cases ht
  · rename_i hu
    split at h
    · rename_i hg
      cases hk : eqCells P 10 t with
      | none => simp [hk] at h
      | some ks => simp [hk] at h; exact .inr ⟨ks, _, hu, rfl, h.symm, rfl, hg⟩
    · cases h
  · rename_i hu
    split at h
    · rename_i hg
      cases hk : eqCells P 10 t with
      | none => simp [hk] at h
      | some ks => simp [hk] at h; exact .inr ⟨ks, _, hu, rfl, h.symm, rfl, hg⟩
    · cases h
  · cases h

theorem eqA_prim {k : EK} {x y : AV} {u : TypeDesc} (hk : kindOk k u) : eqA k x y = eqP k x y := by
  cases k with
  | agg ks => simp [kindOk] at hk
  | _ => simp [eqA]

theorem isPtr_not {b : AV} (h : b.isPtr = true) : noNumA b = true ∧ (∀ cs, b ≠ .agg cs) ∧ b ≠ .nili ∧ b.isTup = false := by
  cases b <;> simp [AV.isPtr] at h <;> simp [noNumA, AV.isTup]

theorem isSl_not {b : AV} (h : b.isSl = true) : noNumA b = true ∧ (∀ cs, b ≠ .agg cs) ∧ b ≠ .nili ∧ b.isTup = false := by
  cases b <;> simp [AV.isSl] at h <;> simp [noNumA, AV.isTup]

theorem eqP_shape {k : EK} {x y : AV} {r : Bool} (h : eqP k x y = some r) :
    (k = .int ∧ ∃ q a b, x = .int q a ∧ y = .int q b ∧ r = (a == b)) ∨ (k = .str ∧ ∃ a b, x = .str a ∧ y = .str b ∧ r = (a.toList == b.toList)) ∨ (noNumA x = true ∧ (∀ cs, x ≠ .agg cs) ∧ (∀ cs, y ≠ .agg cs) ∧ (x = .nili → k = .ifc) ∧ x.isTup = false ∧ y.isTup = false) := by
  unfold eqP at h
  split at h
  case h_1 => exact .inr (.inr (by simp [noNumA, AV.isTup]))
  case h_2 =>
    split at h
    · rename_i e; subst e; cases h; exact .inl ⟨rfl, _, _, _, rfl, rfl, rfl⟩
    · cases h
  case h_3 => cases h; exact .inr (.inl ⟨rfl, _, _, rfl, rfl, rfl⟩)
  case h_5 =>
    split at h
    · rename_i hp
      obtain ⟨_, p2, p3, p4⟩ := isPtr_not hp
      exact .inr (.inr ⟨rfl, by simp, p2, by simp, rfl, p4⟩)
    · cases h
  case h_6 =>
    split at h
    · rename_i hp
      obtain ⟨p1, p2, p3, p4⟩ := isPtr_not hp
      exact .inr (.inr ⟨p1, p2, by simp, fun e => absurd e p3, p4, rfl⟩)
    · cases h
  case h_8 =>
    split at h
    · rename_i hp
      obtain ⟨_, p2, p3, p4⟩ := isSl_not hp
      exact .inr (.inr ⟨rfl, by simp, p2, by simp, rfl, p4⟩)
    · cases h
  case h_9 =>
    split at h
    · rename_i hp
      obtain ⟨p1, p2, p3, p4⟩ := isSl_not hp
      exact .inr (.inr ⟨p1, p2, by simp, fun e => absurd e p3, p4, rfl⟩)
    · cases h
  case h_20 => cases h
  all_goals exact .inr (.inr (by simp [noNumA, AV.isTup]))

theorem nili_of {x : AV} (h : x.isTup = false) (r : VRel G x .nilIface) : x = .nili := by
  cases x <;> simp [AV.isTup] at h <;> simp [VRel] at r
  rfl

theorem eq_run {t : TypeId} {xo yo : Operand} {k : EK} (hk : eqKind P t xo yo = some k) {x y : AV} {x' y' : Value} (hx : VRel G x x') (hy : VRel G y y') {r : Bool} (h : eqA k x y = some r) (w : World) :
    (eqGuard .eql t xo yo x' y').run P w = .ok () w ∧ (binOp .eql t x' y').run P w = .ok (.bool r) w ∧ (eqGuard .neq t xo yo x' y').run P w = .ok () w ∧ (binOp .neq t x' y').run P w = .ok (.bool !r) w := by
  rcases eqKind_of hk with ⟨u, hu, hko, hifc, hife⟩ | ⟨ks, u, hu, hagg, rfl, hc, hg⟩
  · rw [eqA_prim hko] at h
    rcases eqP_shape h with ⟨rfl, q, a, b, rfl, rfl, rfl⟩ | ⟨rfl, a, b, rfl, rfl, rfl⟩ | ⟨h1, h2, h3, h4, h5, h6⟩
    · simp only [VRel] at hx hy; subst hx hy
      exact ⟨eqGuard_run _ _ _ _ _ _ (by simp) (by simp) w, by simp [binOp, Op.intCmp], eqGuard_run _ _ _ _ _ _ (by simp) (by simp) w, by simp [binOp, Op.intCmp, bne]⟩
    · simp only [VRel] at hx hy; subst hx hy
      exact ⟨eqGuard_run _ _ _ _ _ _ (by simp) (by simp) w, by simp [binOp, Op.stringOp], eqGuard_run _ _ _ _ _ _ (by simp) (by simp) w, by simp [binOp, Op.stringOp]⟩
    · have hn := noNumA_rel h1 hx
      have e : (Op.equal t x' y').run P w = .ok r w := eqP_run hu hko hx hy h 9999 w (fun ts hts => ⟨by decide, hife ts hts⟩)
      have g : ∀ op, (eqGuard op t xo yo x' y').run P w = .ok () w := fun op => by
        refine eqGuard_run _ _ _ _ _ _ (fun ea _ => ?_) (fun xs ys ea _ => ?_) w
        · subst ea
          exact hifc (h4 (nili_of h5 hx))
        · subst ea
          obtain ⟨cs, rfl⟩ := isAgg_rel h5 hx
          exact absurd rfl (h2 cs)
      exact ⟨g _, by simp [binOp_eql hn, e], g _, by simp [binOp_neq hn, e]⟩
  · unfold eqA at h
    split at h
    · rename_i ks' xs ys he
      cases he
      split at h
      · rename_i hl
        simp only [VRel] at hx hy
        obtain ⟨vx, rfl, lx, fx⟩ := hx
        obtain ⟨vy, rfl, ly, fy⟩ := hy
        have g : ∀ op, (eqGuard op t xo yo (.agg vx) (.agg vy)).run P w = .ok () w := fun op => eqGuard_run _ _ _ _ _ _ (by simp) (fun _ _ _ _ => hg) w
        have e : (Op.equal t (.agg vx) (.agg vy)).run P w = .ok r w := by
          rw [show (10 : Nat) = 9 + 1 from rfl, eqCells, hu] at hc
          cases u <;> simp only [aggD, Bool.false_eq_true] at hagg
          · rename_i n e
            simp only at hc
            split at hc
            · rename_i ks' hk9
              split at hc
              · rename_i hcc
                obtain ⟨hes, _⟩ := hcc
                cases hc
                have hes' := hes
                unfold sizeT at hes'
                obtain ⟨i, hi, hsz⟩ := Option.map_eq_some_iff.1 hes'
                show (Op.equalIn (9999 + 1) t (.agg vx) (.agg vy)).run P w = _
                rw [run_equalIn_array w 9999 _ _ hu hi]
                have hcell : P.cellsOf e = ks'.length := by
                  unfold Program.cellsOf
                  rw [hes']; rfl
                rw [hcell, List.range_eq_range']
                have hfl : (List.replicate n ks').flatten.length = n * ks'.length := by simp
                rw [hfl] at hl
                refine eqItems_run (as := xs) (bs := ys) (fun D'' hD'' => eqCells_run 9 e ks' hk9 D'' (by omega)) hes lx ly fx fy n 0 r (by rw [Nat.zero_add]; omega) (by rw [Nat.zero_add]; omega) ?_
                rw [Nat.zero_mul, List.drop_zero, List.drop_zero, ← hl.1, List.take_length, hl.1, ← hl.2, List.take_length]
                exact h
              · cases hc
            · cases hc
          · rename_i fs
            simp only at hc
            split at hc
            · rename_i hp
              have hf : P.fieldsOf t = fs := by simp [Program.fieldsOf, hu]
              show (Op.equalIn (9999 + 1) t (.agg vx) (.agg vy)).run P w = _
              rw [run_equalIn_struct w 9999 t _ _ (by rw [hf]; exact hu) hp, hf]
              refine eqFields_run (fun t ks h => eqCells_run 9 t ks h) fs.toList 0 ks hc 9999 (by omega) G w _ _ xs ys r lx ly fx fy (by omega) (by omega) ?_
              rw [List.drop_zero, List.drop_zero, ← hl.1, List.take_length, hl.1, ← hl.2, List.take_length]
              exact h
            · cases hc
        exact ⟨g _, by simp [binOp_eql (x := .agg vx) rfl, e], g _, by simp [binOp_neq (x := .agg vx) rfl, e]⟩
      · cases h
    · cases h
    · rename_i n1 n2; first | exact (n1 _ rfl).elim | exact (n2 _ rfl).elim

/-! Interfaces. -/

theorem ta_run {asserted : TypeId} {u : TypeDesc} (hu : P.underlying asserted = some u) (hni : ∀ ms, u ≠ .interface ms) {z : AV} (hz : zeroT P asserted = some z) {x v : AV} {x' : Value} {ok : Bool} (hx : VRel G x x') (h : taA z x asserted ok = some v) (xT : TypeId) (w : World) :
    ∃ v', (Instr.typeAssert x' xT asserted ok).run P w = .ok v' w ∧ VRel G v v' := by
  obtain ⟨z', e, _, rz⟩ := zeroT_rel hz G w
  unfold taA at h
  split at h
  · simp only [VRel] at hx; subst hx
    split at h
    · rename_i hok; subst hok; cases h
      refine ⟨.tuple #[z', .bool false], ?_, ⟨_, rfl, ⟨z', _, rfl, rz, ⟨_, _, rfl, by simp [VRel], by simp [LRel]⟩⟩⟩⟩
      cases u <;> first | exact absurd rfl (hni _) | simp [Instr.typeAssert, run_underlying hu, e]
    · cases h
  · rename_i t' y
    simp only [VRel] at hx
    obtain ⟨y', rfl, ry⟩ := hx
    split at h
    · rename_i ht
      subst ht
      cases h
      cases ok with
      | true =>
        refine ⟨.tuple #[y', .bool true], ?_, ⟨_, rfl, ⟨y', _, rfl, ry, ⟨_, _, rfl, by simp [VRel], by simp [LRel]⟩⟩⟩⟩
        cases u <;> first | exact absurd rfl (hni _) | simp [Instr.typeAssert, run_underlying hu]
      | false =>
        refine ⟨y', ?_, ry⟩
        cases u <;> first | exact absurd rfl (hni _) | simp [Instr.typeAssert, run_underlying hu]
    · rename_i ht
      split at h
      · rename_i hok; subst hok; cases h
        refine ⟨.tuple #[z', .bool false], ?_, ⟨_, rfl, ⟨z', _, rfl, rz, ⟨_, _, rfl, by simp [VRel], by simp [LRel]⟩⟩⟩⟩
        cases u <;> first | exact absurd rfl (hni _) | simp [Instr.typeAssert, run_underlying hu, e, ht]
      · cases h
  · cases h

theorem tai_run {asserted : TypeId} {want : Array (String × TypeId)} (hu : P.underlying asserted = some (.interface want)) (hz : nilZero P asserted = true) {x v : AV} {x' : Value} {ok : Bool} (hx : VRel G x x') (h : taiA (typesWith P want) x ok = some v) (xT : TypeId) (w : World) :
    ∃ v', (Instr.typeAssert x' xT asserted ok).run P w = .ok v' w ∧ VRel G v v' := by
  have e : (zeroValue asserted).run P w = .ok .nilIface w := by
    unfold nilZero zeroV at hz
    cases hi : P.info? asserted with
    | none => simp [hi] at hz
    | some i =>
      simp only [hi, Option.bind_some] at hz
      split at hz
      · rename_i h0; simp only [zeroValue, Sem.run_bind, run_typeInfo _ hi, Result.andThen_ok, h0, Sem.run_pure]
      · cases hz
  unfold taiA at h
  split at h
  · simp only [VRel] at hx; subst hx
    split at h
    · rename_i hok; subst hok; cases h
      refine ⟨.tuple #[.nilIface, .bool false], ?_, ⟨_, rfl, ⟨_, _, rfl, by simp [VRel], ⟨_, _, rfl, by simp [VRel], by simp [LRel]⟩⟩⟩⟩
      simp [Instr.typeAssert, run_underlying hu, e]
    · cases h
  · rename_i t y
    have hx0 := hx
    simp only [VRel] at hx
    obtain ⟨y', rfl, ry⟩ := hx
    split at h
    · rename_i hc
      cases h
      rw [List.contains_iff_mem] at hc
      simp only [typesWith, List.mem_filter] at hc
      obtain ⟨_, hm⟩ := hc
      split at hm
      · rename_i i hi
        have hm' : Instr.missingMethod want i.methods = none := by simpa using hm
        cases ok with
        | true =>
          refine ⟨.tuple #[.iface t y', .bool true], ?_, ⟨_, rfl, ⟨_, _, rfl, hx0, ⟨_, _, rfl, by simp [VRel], by simp [LRel]⟩⟩⟩⟩
          simp [Instr.typeAssert, run_underlying hu, run_typeInfo _ hi, hm']
        | false =>
          refine ⟨.iface t y', ?_, hx0⟩
          simp [Instr.typeAssert, run_underlying hu, run_typeInfo _ hi, hm']
      · cases hm
    · cases h
  · cases h

theorem mki_run {t : TypeId} {u : TypeDesc} (hu : P.underlying t = some u) (hni : ∀ ms, u ≠ .interface ms) (x : Value) (w : World) : (Instr.makeInterface t x).run P w = .ok (.iface t x) w := by
  cases u <;> first | exact absurd rfl (hni _) | simp [Instr.makeInterface, run_underlying hu]

theorem nilck_run {x v : AV} {x' : Value} (hx : VRel G x x') (h : nilckA x = some v) : v = x ∧ ((∃ a, x' = .pointer (some a)) ∨ (∃ f a b, x' = .func (.func f) a b) ∨ ∃ f a b, x' = .func (.yield f) a b) := by
  unfold nilckA at h
  split at h
  all_goals (try cases h)
  · simp only [VRel] at hx; obtain ⟨_, a, rfl, _⟩ := hx; exact ⟨rfl, .inl ⟨_, rfl⟩⟩
  · simp only [VRel] at hx; obtain ⟨_, _, a, rfl, _⟩ := hx; exact ⟨rfl, .inl ⟨_, rfl⟩⟩
  · simp only [VRel] at hx; obtain ⟨_, _, _, rfl, _⟩ := hx; exact ⟨rfl, .inl ⟨_, rfl⟩⟩
  · simp only [VRel] at hx; subst hx; exact ⟨rfl, .inl ⟨_, rfl⟩⟩
  · simp only [VRel, fnRel] at hx; obtain ⟨_, _, _, rfl, rfl, _⟩ := hx; exact ⟨rfl, .inr (.inl ⟨_, _, _, rfl⟩)⟩
  · simp only [VRel, fnRel] at hx; obtain ⟨_, _, _, rfl, ⟨_, k, rfl, _⟩, _⟩ := hx; exact ⟨rfl, .inr (.inr ⟨_, _, _, rfl⟩)⟩

/-! Lengths; the greatest and the least. -/

theorem MRel.length : ∀ {es : List (AV × AV)} {ms : List MapEntry}, MRel G es ms → ms.length = es.length
  | [], ms, r => by simp only [MRel] at r; subst r; rfl
  | (k, v) :: es, ms, r => by
    simp only [MRel] at r
    obtain ⟨m, q, rfl, _, _, _, h⟩ := r
    simp [MRel.length h]

theorem len_run (hw : WRel P B w₀ G σ w) {t ty : TypeId} {u : TypeDesc} {k : EK} (hu : P.underlying t = some u) (hk : kindOk k u) {x v : AV} {x' : Value} (hx : VRel G x x') (h : lenA σ k x = some v) :
    ∃ v', (Builtin.len_ #[t] ty #[x']).run P w = .ok v' w ∧ VRel G v v' := by
  unfold lenA at h
  split at h
  · cases h; simp only [VRel] at hx; subst hx; simp only [kindOk] at hk; subst hk
    exact exInt (by simp [Builtin.len_, run_underlying hu, goInt])
  · cases h; simp only [VRel] at hx; subst hx; obtain ⟨e, rfl⟩ := hk
    exact exInt (by simp [Builtin.len_, run_underlying hu, goInt])
  · cases h; simp only [VRel] at hx; obtain ⟨_, _, _, _, _, rfl, _⟩ := hx; obtain ⟨e, rfl⟩ := hk
    exact exInt (by simp [Builtin.len_, run_underlying hu, goInt])
  · cases h; simp only [VRel] at hx; obtain ⟨_, _, _, _, rfl, _⟩ := hx; obtain ⟨e, rfl⟩ := hk
    exact exInt (by simp [Builtin.len_, run_underlying hu, goInt])
  · cases h; simp only [VRel] at hx; obtain ⟨_, _, _, rfl, _⟩ := hx; obtain ⟨e, rfl⟩ := hk
    exact exInt (by simp [Builtin.len_, run_underlying hu, goInt])
  · cases h; simp only [VRel] at hx; subst hx; obtain ⟨_, e, rfl⟩ := hk
    exact exInt (by simp [Builtin.len_, run_underlying hu, goInt])
  · rename_i id
    split at h
    · rename_i es he
      cases h
      obtain ⟨h0, ms, clock, hb, hm⟩ := hw.obj id _ he hx.pz_mp
      simp only [VRel] at hx
      obtain ⟨_, r, rfl, hr⟩ := hx
      obtain ⟨_, e, rfl⟩ := hk
      rw [hr h0]
      have hl : ms.size = es.length := by rw [← Array.length_toList]; exact hm.length
      exact exInt (by simp [Builtin.len_, run_underlying hu, goInt, getObj, Sem.run, hb, hl])
    · cases h
  · exact hk.elim
  · exact hk.elim
  · exact hk.elim
  · cases h

theorem cap_run {t ty e : TypeId} (hu : P.underlying t = some (.slice e)) {x v : AV} {x' : Value} (hx : VRel G x x') (h : lenA σ .cap x = some v) (w : World) :
    ∃ v', (Builtin.cap_ #[t] ty #[x']).run P w = .ok v' w ∧ VRel G v v' := by
  unfold lenA at h
  split at h <;> first | (cases h; done) | skip
  all_goals first | (rename_i hk; cases hk; done) | skip
  · cases h; simp only [VRel] at hx; subst hx
    exact exInt (by simp [Builtin.cap_, run_underlying hu, goInt])
  · cases h; simp only [VRel] at hx; obtain ⟨_, _, cap, _, _, rfl, _, hc, _⟩ := hx
    rw [← hc trivial]
    exact exInt (by simp [Builtin.cap_, run_underlying hu, goInt])
  · cases h; simp only [VRel] at hx; obtain ⟨_, _, _, cap, rfl, _, hc, _⟩ := hx
    rw [← hc trivial]
    exact exInt (by simp [Builtin.cap_, run_underlying hu, goInt])

theorem fold_run {f : AV → AV → Option AV} {g : Value → Value → Sem Value} (hf : ∀ a b c a' b', f a b = some c → VRel G a a' → VRel G b b' → ∃ c', (∀ w, (g a' b').run P w = .ok c' w) ∧ VRel G c c') :
    ∀ (xs : List AV) (x : AV) (v : AV) (x' : Value) (xs' : List Value), foldA f (x :: xs) = some v → VRel G x x' → LRel G xs xs' → ∀ w, ∃ v', (xs'.foldlM g x').run P w = .ok v' w ∧ VRel G v v'
  | [], x, v, x', xs', h, hx, hl, w => by
    simp only [LRel] at hl
    subst hl
    unfold foldA at h
    cases h
    exact ⟨x', by simp, hx⟩
  | y :: ys, x, v, x', xs', h, hx, hl, w => by
    simp only [LRel] at hl
    obtain ⟨y', ys', rfl, hy, hl⟩ := hl
    unfold foldA at h
    split at h
    · rename_i z hz
      obtain ⟨z', e, rz⟩ := hf _ _ _ _ _ hz hx hy
      obtain ⟨v', e', rv⟩ := fold_run hf ys z v z' ys' h rz hl w
      exact ⟨v', by simp [List.foldlM_cons, e, e'], rv⟩
    · cases h

theorem max_run {ts : Array TypeId} {t : TypeId} {xs : List AV} {v : AV} {xs' : Array Value} (hl : LRel G xs xs'.toList) (h : foldA maxA xs = some v) (w : World) :
    ∃ v', (Builtin.max_ ts t xs').run P w = .ok v' w ∧ VRel G v v' := by
  cases xs with
  | nil => simp [foldA] at h
  | cons x xs =>
    simp only [LRel] at hl
    obtain ⟨x', r, e, hx, hl⟩ := hl
    simp only [Builtin.max_, e]
    refine fold_run (fun a b c a' b' hz ha hb => ?_) xs x v x' r h hx hl w
    unfold maxA at hz
    split at hz
    · cases hz; simp only [VRel] at ha hb; subst ha hb
      exact ⟨_, fun w => by simp only [Builtin.max2, Sem.run_pure]; rfl, by simp [VRel]⟩
    · cases hz

theorem min_run {ts : Array TypeId} {t : TypeId} {xs : List AV} {v : AV} {xs' : Array Value} (hl : LRel G xs xs'.toList) (h : foldA minA xs = some v) (w : World) :
    ∃ v', (Builtin.min_ ts t xs').run P w = .ok v' w ∧ VRel G v v' := by
  cases xs with
  | nil => simp [foldA] at h
  | cons x xs =>
    simp only [LRel] at hl
    obtain ⟨x', r, e, hx, hl⟩ := hl
    simp only [Builtin.min_, e]
    refine fold_run (fun a b c a' b' hz ha hb => ?_) xs x v x' r h hx hl w
    unfold minA at hz
    split at hz
    · cases hz; simp only [VRel] at ha hb; subst ha hb
      exact ⟨_, fun w => by simp only [Builtin.min2, Sem.run_pure]; rfl, by simp [VRel]⟩
    · cases hz

end Go.Den

/- Den: values that are built from parts; a string from bytes. -/
namespace Go.Den
open Go Go.RowKit

variable {P : Program} {X : Ctx} {B : Nat} {w₀ : World}
variable {G : Gh} {σ : AS} {w : World}

theorem LRel.splice {cs vs : List AV} {c : Array Value} {us : List Value} {off : Nat} (hl : LRel G cs c.toList) (hv : LRel G vs us) (h : off + vs.length ≤ cs.length) :
    LRel G (splice cs off vs) (putC c off us).toList := by
  have e := hv.length
  have e2 := hl.length
  rw [Array.length_toList] at e2
  rw [putC_toList _ _ _ (by omega)]
  unfold Den.splice
  rw [e]
  exact (hl.take off).append (hv.append (hl.drop _))

theorem Leaves.splice {c : Array Value} {us : List Value} {off : Nat} (hl : Leaves c.toList) (hv : Leaves us) (h : off + us.length ≤ c.size) : Leaves (putC c off us).toList := by
  rw [putC_toList _ _ _ h]
  exact (hl.take off).append (hv.append (hl.drop _))

theorem foldl_putC (off : Nat) : ∀ (l : List Value) (k : Nat) (c : Array Value), (l.zipIdx k).foldl (fun cs (p : Value × Nat) => cs.setIfInBounds (off + p.2) p.1) c = putC c (off + k) l
  | [], _, _ => rfl
  | v :: l, k, c => by
    simp only [List.zipIdx_cons, List.foldl_cons, putC]
    rw [foldl_putC off l (k + 1)]
    rfl

theorem fill_rel {nt : Nat} {e : Env} {a : Act} (he : ERel G nt e a.tmps) {place place' : Nat → Option (Nat × Nat)} (hp : ∀ i p, place i = some p → place' i = some p) :
    ∀ (ps : List (Nat × Operand)) (l : List (Nat × Nat × Opd)) (cs cs' : List AV) (c : Array Value), parts place ps = some l → fillA cs (l.map fun p => (p.1, p.2.1, p.2.2.get e)) = some cs' → LRel G cs c.toList → Leaves c.toList →
    ∃ c', Instr.fill place' c (ps.map fun p => (p.1, a.eval p.2)) = some c' ∧ LRel G cs' c'.toList ∧ Leaves c'.toList
  | [], l, cs, cs', c, h, hf, hl, lf => by
    simp only [parts, Option.some.injEq] at h
    subst h
    simp only [List.map_nil, fillA, Option.some.injEq] at hf
    subst hf
    exact ⟨c, by simp [Instr.fill], hl, lf⟩
  | (i, x) :: ps, l, cs, cs', c, h, hf, hl, lf => by
    simp only [parts] at h
    split at h
    · rename_i off n y r' h1 h2 h3
      cases h
      simp only [List.map_cons, fillA] at hf
      split at hf
      · rename_i hc
        obtain ⟨t1, t2, t3⟩ := hc
        have hr := opd_rel he h2
        obtain ⟨l2, lf2⟩ := hr.cells t1
        have hlen := l2.length
        rw [Array.length_toList] at hlen
        have hcl := hl.length
        rw [Array.length_toList] at hcl
        obtain ⟨c', e', r, lf'⟩ := fill_rel he hp ps r' _ cs' (putC c off (a.eval x).cells.toList) h3 hf (hl.splice l2 (by omega)) (lf.splice lf2 (by rw [Array.length_toList]; omega))
        refine ⟨c', ?_, r, lf'⟩
        simp only [List.map_cons, Instr.fill, hp i _ h1]
        rw [if_neg (by simp only [ne_eq, Bool.or_eq_true, decide_eq_true_eq]; omega)]
        rw [← e']
        congr 1
        rw [← Array.foldl_toList, Array.toList_zipIdx]
        exact foldl_putC off _ 0 c
      · cases hf
    · cases h

theorem built_struct {t : TypeId} {fields : Array Field} {z : List AV} (h1 : P.underlying t = some (.struct fields)) (h2 : zcells P t = some z) (h3 : fields.toList.all (fun f => (sizeT P f.type).isSome) = true)
    {nt : Nat} {e : Env} {a : Act} (he : ERel G nt e a.tmps) {ps : Array (Nat × Operand)} {l : List (Nat × Nat × Opd)}
    (hp : parts (fun i => match fields[i]? with | some f => (sizeT P f.type).map fun n => (f.offset, n) | none => none) ps.toList = some l) {cs : List AV} (hf : fillA z (l.map fun p => (p.1, p.2.1, p.2.2.get e)) = some cs) (w : World) :
    ∃ v', (Instr.build t (ps.map fun (i, x) => (i, a.eval x))).run P w = .ok v' w ∧ VRel G (.agg cs) v' := by
  obtain ⟨z', _, hz, lz, lfz, _⟩ := zcells_rel h2 G w
  obtain ⟨it, hit, hz'⟩ : ∃ it, P.info? t = some it ∧ it.zero = some z' := by
    unfold zeroV at hz
    cases hi : P.info? t with
    | none => simp [hi] at hz
    | some i => exact ⟨i, rfl, by simpa [hi] using hz⟩
  have hm : ∀ (fs : List Field), fs.all (fun f => (sizeT P f.type).isSome) = true → ∃ places, fs.mapM (fun f => (P.info? f.type).map fun i => (f.offset, i.size)) = some places ∧ ∀ (i : Nat) (f : Field), fs[i]? = some f → ∃ n, sizeT P f.type = some n ∧ places[i]? = some (f.offset, n) := by
    intro fs
    induction fs with
    | nil => intro _; exact ⟨[], by simp, by simp⟩
    | cons f fs ih =>
      intro hall
      simp only [List.all_cons, Bool.and_eq_true] at hall
      obtain ⟨places, e1, e2⟩ := ih hall.2
      cases hi : P.info? f.type with
      | none => simp [sizeT, hi] at hall
      | some i =>
        refine ⟨(f.offset, i.size) :: places, by simp [List.mapM_cons, hi, e1], fun j g hj => ?_⟩
        cases j with
        | zero => simp at hj; subst hj; exact ⟨i.size, by simp [sizeT, hi], by simp⟩
        | succ j => simpa using e2 j g (by simpa using hj)
  obtain ⟨places, hpl, hpl'⟩ := hm _ h3
  have hz0 : z'.cells.toList = z'.cells.toList := rfl
  obtain ⟨c', e', r, lf⟩ := fill_rel (place' := (places.toArray[·]?)) he (fun i p hi => by
    cases hfi : fields[i]? with
    | none => simp [hfi] at hi
    | some f =>
      obtain ⟨n, s1, s2⟩ := hpl' i f (by simpa using hfi)
      simp [hfi, s1] at hi
      subst hi
      simpa using s2) ps.toList l z cs z'.cells hp hf lz lfz
  refine ⟨.agg c', ?_, ⟨c', rfl, r, lf⟩⟩
  refine run_build w t _ c' ?_
  unfold Program.built
  rw [hit, h1]
  simp only [hz', hpl]
  rw [← e']
  congr 1
  simp

theorem built_array {t elem : TypeId} {n sz : Nat} {z : List AV} (h1 : P.underlying t = some (.array n elem)) (h2 : zcells P t = some z) (h3 : sizeT P elem = some sz)
    {nt : Nat} {e : Env} {a : Act} (he : ERel G nt e a.tmps) {ps : Array (Nat × Operand)} {l : List (Nat × Nat × Opd)}
    (hp : parts (fun i => some (i * sz, sz)) ps.toList = some l) {cs : List AV} (hf : fillA z (l.map fun p => (p.1, p.2.1, p.2.2.get e)) = some cs) (w : World) :
    ∃ v', (Instr.build t (ps.map fun (i, x) => (i, a.eval x))).run P w = .ok v' w ∧ VRel G (.agg cs) v' := by
  obtain ⟨z', _, hz, lz, lfz, _⟩ := zcells_rel h2 G w
  obtain ⟨it, hit, hz'⟩ : ∃ it, P.info? t = some it ∧ it.zero = some z' := by
    unfold zeroV at hz
    cases hi : P.info? t with
    | none => simp [hi] at hz
    | some i => exact ⟨i, rfl, by simpa [hi] using hz⟩
  obtain ⟨ie, hie, hsz⟩ : ∃ ie, P.info? elem = some ie ∧ ie.size = sz := by
    unfold sizeT at h3
    cases hi : P.info? elem with
    | none => simp [hi] at h3
    | some i => exact ⟨i, rfl, by simpa [hi] using h3⟩
  obtain ⟨c', e', r, lf⟩ := fill_rel (place' := fun i => some (i * sz, sz)) he (fun i p hi => hi) ps.toList l z cs z'.cells hp hf lz lfz
  refine ⟨.agg c', ?_, ⟨c', rfl, r, lf⟩⟩
  refine run_build w t _ c' ?_
  unfold Program.built
  rw [hit, h1]
  simp only [hz', hie, hsz]
  rw [← e']
  congr 1
  simp

/-! The elements of a slice, and a string from bytes. -/

theorem all_len {sz : Nat} {els : List (List AV)} (h : els.all (fun el => el.length == sz) = true) : ∀ el ∈ els, el.length = sz := fun el hel => by
  have := List.all_eq_true.1 h el hel
  simpa using this

/-- Where a slice's elements lie. -/
theorem elems_at (hw : WRel P B w₀ G σ w) {sz : Nat} {x : AV} {x' : Value} {els : List (List AV)} (hx : VRel G x x') (h : elems σ sz x = some els) :
    (els = [] ∧ x' = .slice none 0 0) ∨
    ∃ a cap vs, x' = .slice (some a) els.length cap ∧ (∀ el ∈ els, el.length = sz) ∧ LLRel G els vs ∧ Leaves vs ∧ (vs = [] ∨ ∃ b o, a = ⟨b, o, none⟩ ∧ ∀ j u, vs[j]? = some u → w.cell? ⟨b, o + j, none⟩ = some u) := by
  unfold elems at h
  split at h
  · cases h; simp only [VRel] at hx; exact .inl ⟨rfl, hx⟩
  · rename_i els' clip
    split at h
    · rename_i hu
      cases h
      simp only [VRel] at hx
      obtain ⟨b, o, cap, s, vs, e, _, _, _, hf, lf, hl⟩ := hx
      exact .inr ⟨_, cap, vs, e, all_len hu, hl, lf, .inr ⟨b, o, rfl, fun j u hj => hw.frz _ _ _ (hf j u hj)⟩⟩
    · cases h
  · rename_i id ver sz₁ off len clip
    split at h
    · rename_i v sz' ty els' he
      split at h
      · rename_i hc
        obtain ⟨c1, c2, c3, c4⟩ := hc
        subst c1 c2 c3
        cases h
        obtain ⟨g1, g2, g3, c, pre, vs, post, hb, hcl, hpre, _, hl, lf⟩ := hw.obj id _ he hx.pz_ref
        simp only [VRel] at hx
        obtain ⟨_, _, a, cap, e, hcap, _, hh⟩ := hx
        obtain ⟨_, ha, _⟩ := hh g1
        have hlen : ((els'.drop off).take len).length = len := by simp; omega
        refine .inr ⟨a, cap, (vs.drop (off * sz₁)).take (len * sz₁), by rw [hlen]; exact e, fun el hel => g3 el (List.mem_of_mem_drop (List.mem_of_mem_take hel)), hl.slice g3, (lf.drop _).take _, ?_⟩
        by_cases h0 : len = 0
        · left; simp [h0]
        · right
          refine ⟨_, _, ha (by omega), fun j u hj => ?_⟩
          refine cell_of_block hb _ u ?_
          rw [List.getElem?_take] at hj
          split at hj
          · rw [List.getElem?_drop] at hj
            rw [hcl, List.getElem?_append_right (by omega), List.getElem?_append_left (by have := (List.getElem?_eq_some_iff.1 hj).1; omega)]
            rw [← hj]; congr 1; omega
          · cases hj
      · cases h
    · cases h
  · rename_i id sz' off len
    split at h
    · rename_i cs tg he
      split at h
      · rename_i hc
        obtain ⟨c1, c2⟩ := hc
        subst c1
        cases h
        obtain ⟨g1, _, c, ty, hb, hl, lf, _⟩ := cells_of_box hw he hx.pz_aref
        simp only [VRel] at hx
        obtain ⟨_, a, cap, e, hcap, ha⟩ := hx
        have hle : len * sz' ≤ (cs.drop off).length := by simp; omega
        refine .inr ⟨a, cap, (c.toList.drop off).take (len * sz'), by rw [chunks_length]; exact e, chunks_uniform hle, ?_, (lf.drop _).take _, ?_⟩
        · rw [LLRel.iff, chunks_flatten hle]; exact (hl.drop _).take _
        · by_cases h0 : len = 0
          · left; simp [h0]
          · right
            refine ⟨_, _, ha g1 (by omega), fun j u hj => ?_⟩
            refine cell_of_block hb _ u ?_
            rw [List.getElem?_take] at hj
            split at hj
            · rwa [List.getElem?_drop] at hj
            · cases hj
      · cases h
    · cases h
  · cases h

theorem flat_len {sz : Nat} : ∀ {els : List (List AV)}, (∀ el ∈ els, el.length = sz) → els.flatten.length = els.length * sz
  | [], _ => by simp
  | x :: xs, h => by
    have ih := flat_len (els := xs) fun y hy => h y (by simp [hy])
    simp only [List.flatten_cons, List.length_append, List.length_cons, h x (by simp), ih]
    rw [Nat.succ_mul]; omega

theorem LLRel.len {sz : Nat} {els : List (List AV)} {vs : List Value} (h : LLRel G els vs) (hu : ∀ el ∈ els, el.length = sz) : vs.length = els.length * sz := by
  rw [(LLRel.iff.1 h).length, flat_len hu]

/-- The first elements' cells. -/
theorem elems_load (hw : WRel P B w₀ G σ w) {sz : Nat} {x : AV} {x' : Value} {els : List (List AV)} (hx : VRel G x x') (h : elems σ sz x = some els) :
    ∃ vs, LLRel G els vs ∧ Leaves vs ∧ (∀ el ∈ els, el.length = sz) ∧ vs.length = els.length * sz ∧ (∃ a cap, x' = .slice a els.length cap ∧ (a = none → els = [])) ∧
      ∀ w', w'.heap = w.heap → ∀ n, n ≤ els.length → (Builtin.firstCells sz n x').run P w' = .ok (vs.take (n * sz)).toArray w' := by
  rcases elems_at hw hx h with ⟨rfl, rfl⟩ | ⟨a, cap, vs, rfl, hu, hl, lf, hc⟩
  · refine ⟨[], by simp [LLRel], fun u hu => by simp at hu, by simp, by simp, ⟨none, 0, rfl, fun _ => rfl⟩, fun w' hw' n hn => ?_⟩
    simp at hn; subst hn
    simp [Builtin.firstCells]
  · refine ⟨vs, hl, lf, hu, hl.len hu, ⟨some a, cap, rfl, fun h => by cases h⟩, fun w' hw' n hn => ?_⟩
    have hlen := hl.len hu
    rcases hc with rfl | ⟨b, o, rfl, hc⟩
    · simp only [Builtin.firstCells]
      have : n * sz = 0 := by
        have h0 : els.length * sz = 0 := by simpa using hlen.symm
        have := Nat.mul_le_mul_right sz hn
        omega
      rw [this]
      simp [loadCells, loadCellsFrom]
    · simp only [Builtin.firstCells]
      have hle : n * sz ≤ els.length * sz := Nat.mul_le_mul_right _ hn
      exact run_loadCells (vs.take (n * sz)) (by simp; omega) (fun j u hj => by
        rw [List.getElem?_take] at hj
        split at hj
        · have := hc _ _ hj
          simp only [World.cell?, hw'] at this ⊢; exact this
        · cases hj)

theorem stringA_rel : ∀ {els : List (List AV)} {vs : List Value} {l : List UInt8}, LLRel G els vs → stringA els = some l → ∃ ns : List Int, vs = ns.map (Value.int .u8) ∧ l = ns.map fun n => UInt8.ofNat n.toNat
  | [], vs, l, h, e => by
    simp only [LLRel] at h; subst h
    simp only [stringA, Option.some.injEq] at e; subst e
    exact ⟨[], rfl, rfl⟩
  | x :: xs, vs, l, h, e => by
    simp only [LLRel] at h
    obtain ⟨v, r, rfl, h1, h2⟩ := h
    unfold stringA at e
    split at e
    · rename_i heq; cases heq
    · rename_i n r' heq
      cases heq
      cases hr : stringA xs with
      | none => simp [hr] at e
      | some l' =>
        simp [hr] at e
        subst e
        obtain ⟨ns, rfl, rfl⟩ := stringA_rel h2 hr
        simp only [LRel, VRel] at h1
        obtain ⟨v', q, rfl, rfl, rfl⟩ := h1
        exact ⟨n :: ns, rfl, rfl⟩
    · cases e

theorem foldl_push : ∀ (ns : List Int) (s : ByteArray), ns.foldl (fun r n => r.push (UInt8.ofNat n.toNat)) s = ⟨s.data ++ (ns.map fun n => UInt8.ofNat n.toNat).toArray⟩
  | [], s => by simp
  | n :: ns, s => by
    rw [List.foldl_cons, foldl_push ns]
    simp [ByteArray.push]

theorem b2s_run (hw : WRel P B w₀ G σ w) {s d e : TypeId} (h1 : P.underlying s = some (.slice e)) (h2 : P.underlying d = some .string) (h3 : P.underlying e = some (.int .u8)) {x : AV} {x' : Value} {els : List (List AV)} {l : List UInt8} (hx : VRel G x x')
    (he : elems σ 1 x = some els) (hs : stringA els = some l) : (convert s d x').run P w = .ok (.string ⟨l.toArray⟩) w := by
  obtain ⟨vs, hl, lf, hu, hlen, ⟨a, cap, rfl, ha⟩, hf⟩ := elems_load hw hx he
  obtain ⟨ns, rfl, rfl⟩ := stringA_rel hl hs
  cases a with
  | none =>
    have := ha rfl
    subst this
    simp at hlen
    subst hlen
    simp [convert, run_underlying h1, run_underlying h2, run_underlying h3, Conv.bytesToString]
    rfl
  | some a =>
    have hc := hf w rfl els.length (Nat.le_refl _)
    simp only [Builtin.firstCells, Nat.mul_one] at hc hlen
    rw [List.take_of_length_le (by omega)] at hc
    have := run_bytesToString (P := P) w a els.length cap ns hc
    simp only [convert, Sem.run_bind, run_underlying h1, run_underlying h2, run_underlying h3, Result.andThen_ok]
    rw [this, foldl_push]
    have e0 : ByteArray.empty.data = #[] := rfl
    rw [e0]
    simp

end Go.Den
