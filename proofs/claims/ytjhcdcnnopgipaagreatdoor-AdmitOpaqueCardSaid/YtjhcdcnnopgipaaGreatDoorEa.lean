/- An evaluator of the model's resolved code, and its operations: what they do to related memories. -/
import Derived.ChangeKeysEq
import Derived.Great.BuildSlice
import Derived.WalkKit
import GoSem.Step
noncomputable section
namespace Go.Ev

/-! ## Binary tries -/
inductive Tr (α : Type) where
  | nil
  | node (l : Tr α) (v : Option α) (r : Tr α)

namespace Tr
variable {α : Type}
noncomputable def get (t : Tr α) : Nat → Option α :=
  @Tr.rec α (fun _ => Nat → Option α) (fun _ => none)
    (fun _ v _ ihl ihr k => @Nat.rec (fun _ => Option α) v (fun k' _ => @Nat.rec (fun _ => Option α) (ihl (Nat.div k' (nat_lit 2))) (fun _ _ => ihr (Nat.div k' (nat_lit 2))) (Nat.mod k' (nat_lit 2))) k) t

noncomputable def putF (x : Option α) (fuel : Nat) : Nat → Tr α → Tr α :=
  @Nat.rec (fun _ => Nat → Tr α → Tr α) (fun _ t => t)
    (fun _ ih k t =>
      @Tr.rec α (fun _ => Tr α)
        (@Nat.rec (fun _ => Tr α) (.node .nil x .nil)
          (fun k' _ => @Nat.rec (fun _ => Tr α) (.node (ih (Nat.div k' (nat_lit 2)) .nil) none .nil) (fun _ _ => .node .nil none (ih (Nat.div k' (nat_lit 2)) .nil)) (Nat.mod k' (nat_lit 2))) k)
        (fun l v r _ _ => @Nat.rec (fun _ => Tr α) (.node l x r)
          (fun k' _ => @Nat.rec (fun _ => Tr α) (.node (ih (Nat.div k' (nat_lit 2)) l) v r) (fun _ _ => .node l v (ih (Nat.div k' (nat_lit 2)) r)) (Nat.mod k' (nat_lit 2))) k)
        t) fuel
noncomputable def put (t : Tr α) (k : Nat) (x : α) : Tr α := putF (some x) (k + 1) k t
end Tr

/-! ## Abstract values -/
inductive AV where
  | bool (b : Bool)
  | int (k : IntKind) (n : Int)
  | str (s : List Nat)
  | nilp
  | ptr (b o : Nat)
  | nils
  | slice (b o len cap : Nat)
  | gslice (b o len sz : Nat)
  | nilm
  | map (b : Nat)
  | nilf
  | func (fn : FuncId) (first captured : List AV)
  | yield (b : Nat)
  | nili
  | iface (t : TypeId) (v : AV)
  | agg (cs : List AV)
  | tup (vs : List AV)
  deriving Inhabited

def AV.undef : AV := .tup []

mutual
def aveq : AV → AV → Bool
  | .bool a, .bool b => a == b
  | .int k a, .int l b => decide (k = l) && decide (a = b)
  | .str a, .str b => decide (a = b)
  | .nilp, .nilp => true
  | .ptr b o, .ptr c p => Nat.beq b c && Nat.beq o p
  | .nils, .nils => true
  | .slice b o l c, .slice b' o' l' c' => Nat.beq b b' && Nat.beq o o' && Nat.beq l l' && Nat.beq c c'
  | .gslice b o l c, .gslice b' o' l' c' => Nat.beq b b' && Nat.beq o o' && Nat.beq l l' && Nat.beq c c'
  | .nilm, .nilm => true
  | .map b, .map c => Nat.beq b c
  | .nilf, .nilf => true
  | .func f a b, .func g c d => Nat.beq f g && avseq a c && avseq b d
  | .yield b, .yield c => Nat.beq b c
  | .nili, .nili => true
  | .iface t v, .iface u w => Nat.beq t u && aveq v w
  | .agg a, .agg b => avseq a b
  | .tup a, .tup b => avseq a b
  | _, _ => false
def avseq : List AV → List AV → Bool
  | [], [] => true
  | a :: l, b :: m => aveq a b && avseq l m
  | _, _ => false
end

def AV.cells : AV → List AV
  | .agg cs => cs
  | v => [v]

/-! ## Resolved operations -/
inductive RO where
  | t (i : Nat)
  | c (v : AV)

/-- How two values of a type are compared. -/
inductive EqD where
  | int | str | bool | ptr
  | iface
  | nilS | nilM | nilF
  | struct (fs : List (Nat × Option Nat × EqD))

inductive SK where      -- what is sliced
  | str
  | sl (sz : Nat)
  | arr (n sz : Nat)

inductive ROp where
  | mv (x : RO)
  | pick (c a b : RO)
  | alloc (zero : List AV)
  | box (x : RO)
  | build (zero : List AV) (parts : List (Nat × Nat × RO))
  | bslice (len : Nat) (base : List AV) (parts : List (Nat × Nat × RO))
  | ld (n : Option Nat) (a : RO)
  | st (n : Nat) (a v : RO)
  | nilck (x : RO)
  | bin (op : BinOp) (e : Option EqD) (x y : RO)
  | un (op : UnOp) (x : RO)
  | cvInt (k : IntKind) (x : RO)
  | cvStr (x : RO)          -- string to string
  | cvBytes (x : RO)        -- string to bytes
  | cvOfBytes (x : RO)      -- bytes to string
  | mkif (t : TypeId) (x : RO)
  | mkfn (f : FuncId) (first captured : List RO)
  | mkmap
  | mksl (sz bytes : Nat) (zero : List AV) (l c : RO)
  | sl (k : SK) (x : RO) (lo hi mx : Option RO)
  | fa (off : Nat) (x : RO)
  | fld (off : Nat) (n : Option Nat) (x : RO)
  | iaArr (n sz : Nat) (x i : RO)
  | iaSl (sz : Nat) (x i : RO)
  | ixArr (n sz : Nat) (ag : Option Nat) (x i : RO)
  | ixStr (x i : RO)
  | lk (e : EqD) (zero : AV) (ok : Bool) (m k : RO)
  | mu (e : EqD) (m k v : RO)
  | me (e : EqD) (zero : AV) (m k : RO)
  | es (m s v : RO)
  | ta (t : TypeId) (ok : Bool) (zero : AV) (x : RO)
  | ex (x : RO) (i : Nat)
  | call (f : RO) (args : List RO)
  | blenStr (x : RO) | blenSl (x : RO) | blenMap (x : RO) | blenArr (n : Nat)
  | bapp (sz bytes : Nat) (s x : RO)
  | bappZ (sz bytes : Nat) (zero : List AV) (s x : RO)
  | bcap (x : RO)
  | bminmax (mx : Bool) (xs : List RO)
  | bclear (sz : Nat) (zero : List AV) (x : RO)
  | bcopy (sz : Nat) (d s : RO)
  | bdel (e : EqD) (m k : RO)

structure ROper where
  dst : Option Nat
  op : ROp
  guard : Option (Nat × Bool)

inductive Jump where
  | ret
  | exit (id : Nat)

inductive RCode where
  | skip
  | reg (ops : List ROper)
  | dreg (ops : List (ROper × Nat))      -- in the order in which they are done here; with each, under how many of the region's writers it may come
  | dreg2 (pre : List (ROper × Nat)) (p q : ROper × Nat)      -- the last two in either order
  | seq (a b : RCode)
  | cond (c : RO) (t e : RCode)
  | block (id : Nat) (b : RCode)
  | loop (b : RCode)
  | rangeF (f : RO) (ps : List Nat) (assign body : RCode)
  | exit (id : Nat)
  | ret
  | bad

structure RFunc where
  body : RCode
  results : List (Nat × Option (Option Nat))

/-! ## Heap -/
inductive AB where
  | cells (cs : List AV) (grown : Bool)
  | map (es : List (AV × AV × Nat)) (clock : Nat)
  | loop (state : LoopState) (pending : Option Jump) (tm : Tr AV) (ps : List Nat) (assign body : RCode) (defers : Nat)
  | deferred (there : Bool)
  | bld (buf : Option (Nat × Nat))      -- a strings.Builder; its buffer's block and length
  | bytes (l : List Nat)                -- a builder's buffer
  | dead

/-- A new block of a zero value; a builder's is marked. -/
def zeroAB (zero : List AV) : AB :=
  match zero with
  | [.tup _] => .bld none
  | z => .cells z false

structure Heap where
  next : Nat
  t : Tr AB

def Heap.get (h : Heap) (b : Nat) : Option AB := h.t.get b
def Heap.set (h : Heap) (b : Nat) (x : AB) : Heap := { h with t := h.t.put b x }
def Heap.push (h : Heap) (x : AB) : Heap := ⟨h.next + 1, h.t.put h.next x⟩

def Heap.cells (h : Heap) (b : Nat) : Option (List AV) :=
  match h.get b with
  | some (.cells cs _) => some cs
  | _ => none

/-! ## Lists -/
def nth {α : Type} : List α → Nat → Option α
  | [], _ => none
  | a :: l, n => match n with | 0 => some a | n + 1 => nth l n

/-- n elements from o on, if they are all there. -/
def takeN {α : Type} : Nat → List α → Option (List α)
  | 0, _ => some []
  | _ + 1, [] => none
  | n + 1, a :: l => match takeN n l with | some m => some (a :: m) | none => none
def dropN {α : Type} : Nat → List α → Option (List α)
  | 0, l => some l
  | _ + 1, [] => none
  | n + 1, _ :: l => dropN n l
def sub {α : Type} (l : List α) (o n : Nat) : Option (List α) :=
  match dropN o l with | some m => takeN n m | none => none

/-- vs laid over l from its head on. -/
def over {α : Type} : List α → List α → Option (List α)
  | l, [] => some l
  | [], _ :: _ => none
  | _ :: l, v :: vs => match over l vs with | some m => some (v :: m) | none => none
def splice {α : Type} : List α → Nat → List α → Option (List α)
  | l, 0, vs => over l vs
  | [], _ + 1, _ => none
  | a :: l, o + 1, vs => match splice l o vs with | some m => some (a :: m) | none => none

def scalar : AV → Bool
  | .agg _ => false
  | .tup _ => false
  | _ => true

abbrev Env := Tr AV
def Env.look (tm : Env) (i : Nat) : AV := match Tr.get tm i with | some v => v | none => .undef
def ro (tm : Env) : RO → AV
  | .t i => Env.look tm i
  | .c v => v

def readCells (h : Heap) (b o n : Nat) : Option (List AV) :=
  match h.get b with
  | some (.cells cs _) => sub cs o n
  | _ => none

def writeCells (h : Heap) (b o : Nat) (vs : List AV) : Option Heap :=
  match h.get b with
  | some (.cells cs g) => match vs.all scalar with
    | true => match splice cs o vs with | some cs' => some (h.set b (.cells cs' g)) | none => none
    | false => none
  | _ => none

def partOf (cs : List AV) (off : Nat) : Option Nat → Option AV
  | some n => match sub cs off n with | some l => some (.agg l) | none => none
  | none => nth cs off

def fillP (tm : Env) : List AV → List (Nat × Nat × RO) → Option (List AV)
  | cs, [] => some cs
  | cs, (off, sz, x) :: rest => match Nat.beq (ro tm x).cells.length sz with
    | true => match splice cs off (ro tm x).cells with | some cs' => fillP tm cs' rest | none => none
    | false => none

/-! ## Equality -/
def liveCells (h : Heap) (b : Nat) : Bool :=
  match h.get b with
  | some (.cells (_ :: _) false) => true
  | _ => false


mutual
def aeq (h : Heap) : EqD → AV → AV → Option Bool
  | .int, .int k a, .int l b => match decide (k = l) with | true => some (decide (a = b)) | false => none
  | .str, .str a, .str b => some (decide (a = b))
  | .bool, .bool a, .bool b => some (a == b)
  | .ptr, .nilp, .nilp => some true
  | .ptr, .nilp, .ptr _ _ => some false
  | .ptr, .ptr _ _, .nilp => some false
  | .ptr, .ptr b o, .ptr c p => match Nat.beq b c with
    | true => some (Nat.beq o p)
    | false => match liveCells h b && liveCells h c with | true => some false | false => none
  | .iface, .nili, .iface _ _ => some false
  | .iface, .iface _ _, .nili => some false
  | .nilS, .nils, .nils => some true
  | .nilS, .nils, .slice _ _ _ _ => some false
  | .nilS, .slice _ _ _ _, .nils => some false
  | .nilS, .nils, .gslice _ _ _ _ => some false
  | .nilS, .gslice _ _ _ _, .nils => some false
  | .nilM, .nilm, .nilm => some true
  | .nilM, .nilm, .map _ => some false
  | .nilM, .map _, .nilm => some false
  | .nilF, .nilf, .nilf => some true
  | .nilF, .nilf, .func _ _ _ => some false
  | .nilF, .func _ _ _, .nilf => some false
  | .struct fs, .agg xs, .agg ys => aeqs h fs xs ys
  | _, _, _ => none
def aeqs (h : Heap) : List (Nat × Option Nat × EqD) → List AV → List AV → Option Bool
  | [], _, _ => some true
  | (off, n, e) :: fs, xs, ys => match partOf xs off n, partOf ys off n with
    | some x, some y => match aeq h e x y with
      | some true => aeqs h fs xs ys
      | some false => some false
      | none => none
    | _, _ => none
end

/-! ## Operations on numbers and strings -/
def wrapI (k : IntKind) (n : Int) : Int := k.wrap n

def binInt (op : BinOp) (k : IntKind) (a b : Int) : Option AV :=
  match op with
  | .add => some (.int k (k.wrap (a + b)))
  | .sub => some (.int k (k.wrap (a - b)))
  | .mul => some (.int k (k.wrap (a * b)))
  | .quo => match decide (b = 0) with | true => none | false => some (.int k (k.wrap (a.tdiv b)))
  | .rem => match decide (b = 0) with | true => none | false => some (.int k (a.tmod b))
  | .and => some (.int k (k.wrap (BitVec.ofInt k.bits a &&& BitVec.ofInt k.bits b).toNat))
  | .or => some (.int k (k.wrap (BitVec.ofInt k.bits a ||| BitVec.ofInt k.bits b).toNat))
  | .xor => some (.int k (k.wrap (BitVec.ofInt k.bits a ^^^ BitVec.ofInt k.bits b).toNat))
  | .andNot => some (.int k (k.wrap (BitVec.ofInt k.bits a &&& ~~~ BitVec.ofInt k.bits b).toNat))
  | .eql => some (.bool (decide (a = b)))
  | .neq => some (.bool (!decide (a = b)))
  | .lss => some (.bool (decide (a < b)))
  | .leq => some (.bool (decide (a ≤ b)))
  | .gtr => some (.bool (decide (b < a)))
  | .geq => some (.bool (decide (b ≤ a)))
  | _ => none

def shiftI (op : BinOp) (k : IntKind) (a b : Int) : Option AV :=
  match decide (b < 0) with
  | true => none
  | false => match op with
    | .shl => some (.int k (k.wrap (a * 2 ^ (min b.toNat k.bits))))
    | .shr => some (.int k (a.fdiv (2 ^ (min b.toNat k.bits))))
    | _ => none

def strLess : List Nat → List Nat → Bool
  | _, [] => false
  | [], _ :: _ => true
  | a :: x, b :: y => match Nat.blt a b with
    | true => true
    | false => match Nat.beq a b with | true => strLess x y | false => false

def binStr (op : BinOp) (a b : List Nat) : Option AV :=
  match op with
  | .add => match Nat.ble (a.length + b.length) 4294967296 with | true => some (.str (a ++ b)) | false => none
  | .eql => some (.bool (decide (a = b)))
  | .neq => some (.bool (!decide (a = b)))
  | .lss => some (.bool (strLess a b))
  | .leq => some (.bool (strLess a b || decide (a = b)))
  | .gtr => some (.bool (!(strLess a b || decide (a = b))))
  | .geq => some (.bool (!strLess a b))
  | _ => none

def binA (h : Heap) (op : BinOp) (e : Option EqD) (x y : AV) : Option AV :=
  match x, y with
  | .int k a, .int l b => match op with
    | .shl => shiftI op k a b
    | .shr => shiftI op k a b
    | _ => match decide (k = l) with | true => binInt op k a b | false => none
  | .str a, .str b => binStr op a b
  | x, y => match e with
    | some e => match op, aeq h e x y with
      | .eql, some r => some (.bool r)
      | .neq, some r => some (.bool (!r))
      | _, _ => none
    | none => none

def unA (op : UnOp) (x : AV) : Option AV :=
  match op, x with
  | .not, .bool b => some (.bool (!b))
  | .neg, .int k n => some (.int k (k.wrap (0 - n)))
  | _, _ => none

/-! ## Slices -/
def natOf (n : Int) : Option Nat :=
  match n with
  | .ofNat m => some m
  | .negSucc _ => none
def asNat : AV → Option Nat
  | .int _ n => natOf n
  | _ => none

/-- A bound: 'x' at most 'y'. -/
def bound (x : Option AV) (dflt y : Nat) : Option Nat :=
  match x with
  | none => some dflt
  | some v => match asNat v with
    | some m => match Nat.ble m y with | true => some m | false => none
    | none => none

def boundH (hi mx : Option AV) (len m : Nat) : Option Nat :=
  match hi, mx with
  | none, some _ => none
  | _, _ => bound hi len m

def sliceStr (s : List Nat) (lo hi : Option AV) : Option AV :=
  match bound hi s.length s.length with
  | some h => match bound lo 0 h with
    | some l => match sub s l (h - l) with | some r => some (.str r) | none => none
    | none => none
  | none => none

def sliceEx (sz b o len cap : Nat) (lo hi mx : Option AV) : Option AV :=
  match bound mx cap cap with
  | some m => match boundH hi mx len m with
    | some h => match bound lo 0 h with
      | some l => some (.slice b (o + l * sz) (h - l) (m - l))
      | none => none
    | none => none
  | none => none

def sliceNil (lo hi mx : Option AV) : Option AV :=
  match bound mx 0 0 with
  | some _ => match boundH hi mx 0 0 with
    | some _ => match bound lo 0 0 with
      | some _ => some .nils
      | none => none
    | none => none
  | none => none

def sliceGr (sz b o len : Nat) (lo hi mx : Option AV) : Option AV :=
  match mx with
  | none => match bound hi len len with
    | some h => match bound lo 0 h with
      | some l => some (.gslice b (o + l * sz) (h - l) sz)
      | none => none
    | none => none
  | some mv => match bound (some mv) 0 len with
    | some m => match hi with
      | none => none
      | some hv => match bound (some hv) 0 m with
        | some h => match bound lo 0 h with
          | some l => some (.slice b (o + l * sz) (h - l) (m - l))
          | none => none
        | none => none
    | none => none

def sliceA (k : SK) (x : AV) (lo hi mx : Option AV) : Option AV :=
  match k, x with
  | .str, .str s => match mx with | none => sliceStr s lo hi | some _ => none
  | .sl sz, .slice b o len cap => sliceEx sz b o len cap lo hi mx
  | .sl _, .nils => sliceNil lo hi mx
  | .sl sz, .gslice b o len sz' => match Nat.beq sz sz' with | true => sliceGr sz b o len lo hi mx | false => none
  | .arr n sz, .ptr b o => sliceEx sz b o n n lo hi mx
  | _, _ => none

/-- The first n elements' cells of what is appended or copied. -/
def firstN (h : Heap) (sz n : Nat) (x : AV) : Option (List AV) :=
  match x with
  | .nils => match Nat.beq n 0 with | true => some [] | false => none
  | .slice b o _ _ => match Nat.beq n 0 with | true => some [] | false => readCells h b o (n * sz)
  | .gslice b o _ _ => match Nat.beq n 0 with | true => some [] | false => readCells h b o (n * sz)
  | .str s => match takeN n s with | some l => some (l.map fun (c : Nat) => AV.int .u8 c) | none => none
  | _ => none

def lenA : AV → Option Nat
  | .nils => some 0
  | .slice _ _ n _ => some n
  | .gslice _ _ n _ => some n
  | .str s => some s.length
  | _ => none

def rep {α : Type} (zero : List α) : Nat → List α
  | 0 => []
  | n + 1 => zero ++ rep zero n

/-- 'append' of n elements' cells. -/
def appA (h : Heap) (sz bytes : Nat) (s : AV) (n : Nat) (new : List AV) : Option (AV × Heap) :=
  match s with
  | .nils => match Nat.beq n 0 with
    | true => some (.nils, h)
    | false => match Nat.ble (n * bytes) 1099511627776 && Nat.ble n 1099511627776 with
      | true => some (.gslice h.next 0 n sz, h.push (.cells new true))
      | false => none
  | .slice b o len cap => match Nat.ble (len + n) cap with
    | true => match Nat.beq n 0 with
      | true => some (.slice b o len cap, h)
      | false => match writeCells h b (o + len * sz) new with
        | some h' => some (.slice b o (len + n) cap, h')
        | none => none
    | false => match Nat.ble ((len + n) * bytes) 1099511627776 && Nat.ble (len + n) 1099511627776, firstN h sz len s with
      | true, some old => some (.gslice h.next 0 (len + n) sz, h.push (.cells (old ++ new) true))
      | _, _ => none
  | .gslice b o len sz' => match Nat.beq sz sz' && Nat.blt 0 sz with
    | false => none
    | true => match Nat.beq n 0 with
      | true => some (s, h)
      | false => match h.get b with
        | some (.cells cs true) => match Nat.ble (o + (len + n) * sz) cs.length with
          | true => match writeCells h b (o + len * sz) new with
            | some h' => some (.gslice b o (len + n) sz, h')
            | none => none
          | false => match Nat.beq o 0 && Nat.ble ((len + n) * bytes) 1099511627776 && Nat.ble (len + n) 1099511627776 && new.all scalar, takeN (len * sz) cs with
            | true, some old => some (.gslice h.next 0 (len + n) sz, (h.set b .dead).push (.cells (old ++ new) true))
            | _, _ => none
        | _ => none
  | _ => none

/-! ## Maps -/
mutual
/-- May a value be a key of the type? -/
def kfits : EqD → AV → Bool
  | .int, .int _ _ => true
  | .str, .str _ => true
  | .bool, .bool _ => true
  | .ptr, .nilp => true
  | .ptr, .ptr _ _ => true
  | .struct fs, .agg xs => kfitss fs xs
  | _, _ => false
def kfitss : List (Nat × Option Nat × EqD) → List AV → Bool
  | [], _ => true
  | (off, n, e) :: fs, xs => (match partOf xs off n with | some x => kfits e x | none => false) && kfitss fs xs
end
def keyS : AV → Bool
  | .int _ _ => true
  | .str _ => true
  | .bool _ => true
  | .nilp => true
  | .ptr _ _ => true
  | _ => false
def keyv : AV → Bool
  | .agg xs => xs.all keyS
  | v => keyS v

def findE (h : Heap) (e : EqD) (k : AV) : List (AV × AV × Nat) → Option (Option (AV × Nat))
  | [] => some none
  | (k', v, n) :: l => match aeq h e k k' with
    | some true => some (some (v, n))
    | some false => findE h e k l
    | none => none
/-- the entry of a key gets a value (none: it stays) -/
def setE (h : Heap) (e : EqD) (k : AV) (v : Option AV) : List (AV × AV × Nat) → Option (List (AV × AV × Nat))
  | [] => none
  | (k', v', n) :: l => match aeq h e k k' with
    | some true => match aveq k k' with
      | true => some ((k', v.getD v', n) :: l)
      | false => none
    | some false => match setE h e k v l with | some m => some ((k', v', n) :: m) | none => none
    | none => none
def setB (s : Nat) (v : AV) : List (AV × AV × Nat) → Option (List (AV × AV × Nat))
  | [] => none
  | (k, v', n) :: l => match Nat.beq n s with
    | true => some ((k, v, n) :: l)
    | false => match setB s v l with | some m => some ((k, v', n) :: m) | none => none
def delE (h : Heap) (e : EqD) (k : AV) : List (AV × AV × Nat) → Option (List (AV × AV × Nat))
  | [] => some []
  | (k', v', n) :: l => match aeq h e k k' with
    | some true => some l
    | some false => match delE h e k l with | some m => some ((k', v', n) :: m) | none => none
    | none => none

def minmax (mx : Bool) : AV → List AV → Option AV
  | .int k x, .int _ y :: l => minmax mx (.int k (match mx with | true => (if y > x then y else x) | false => (if y < x then y else x))) l
  | v, [] => some v
  | _, _ => none

/-- with or without 'ok' -/
def okPair (ok : Bool) (x : AV) (b : Bool) : AV :=
  match ok with
  | true => .tup [x, .bool b]
  | false => x

/-- Bytes. -/
def bytesOf : List AV → Option (List Nat)
  | [] => some []
  | .int .u8 (.ofNat m) :: l => match Nat.blt m 256, bytesOf l with
    | true, some r => some (m :: r)
    | _, _ => none
  | _ => none

/-! ## One operation that is no call -/
def aop (tm : Env) (h : Heap) (op : ROp) : Option (AV × Heap) :=
  let v (x : Option AV) : Option (AV × Heap) := match x with | some x => some (x, h) | none => none
  let u (x : Option Heap) : Option (AV × Heap) := match x with | some x => some (.undef, x) | none => none
  match op with
  | .mv x => some (ro tm x, h)
  | .pick c a b => match ro tm c with
    | .bool true => some (ro tm a, h)
    | .bool false => some (ro tm b, h)
    | _ => none
  | .alloc zero => some (.ptr h.next 0, h.push (zeroAB zero))
  | .box x => some (.ptr h.next 0, h.push (.cells (ro tm x).cells false))
  | .build zero parts => v (match fillP tm zero parts with | some cs => some (.agg cs) | none => none)
  | .bslice len base parts => match fillP tm base parts with
    | some cs => some (.slice h.next 0 len len, h.push (.cells cs false))
    | none => none
  | .ld n a => match ro tm a with
    | .ptr b o => v (match h.cells b with | some cs => partOf cs o n | none => none)
    | _ => none
  | .st n a x => match ro tm a with
    | .ptr b o => match Nat.beq (ro tm x).cells.length n with
      | true => u (writeCells h b o (ro tm x).cells)
      | false => none
    | _ => none
  | .nilck x => match ro tm x with
    | .nilp => none
    | .nili => none
    | .nilf => none
    | y => some (y, h)
  | .bin op e x y => v (binA h op e (ro tm x) (ro tm y))
  | .un op x => v (unA op (ro tm x))
  | .cvInt k x => match ro tm x with
    | .int _ n => some (.int k (k.wrap n), h)
    | _ => none
  | .cvStr x => match ro tm x with
    | .str s => some (.str s, h)
    | _ => none
  | .cvBytes x => match ro tm x with
    | .str s => some (.gslice h.next 0 s.length 1, h.push (.cells (s.map fun (c : Nat) => AV.int .u8 c) true))
    | _ => none
  | .cvOfBytes x => match ro tm x with
    | .nils => some (.str [], h)
    | .slice b o n _ => v (match (match Nat.beq n 0 with | true => some [] | false => readCells h b o n) with
      | some cs => (match bytesOf cs with | some l => some (.str l) | none => none)
      | none => none)
    | .gslice b o n _ => v (match (match Nat.beq n 0 with | true => some [] | false => readCells h b o n) with
      | some cs => (match bytesOf cs with | some l => some (.str l) | none => none)
      | none => none)
    | _ => none
  | .mkif t x => some (.iface t (ro tm x), h)
  | .mkfn f a b => some (.func f (a.map (ro tm)) (b.map (ro tm)), h)
  | .mkmap => some (.map h.next, h.push (.map [] 0))
  | .mksl sz bytes zero l c => match asNat (ro tm l), asNat (ro tm c) with
    | some l, some c => match Nat.ble l c && Nat.ble (c * bytes) 1099511627776 && Nat.ble c 1099511627776 && Nat.beq zero.length sz with
      | true => some (.slice h.next 0 l c, h.push (.cells (rep zero c) false))
      | false => none
    | _, _ => none
  | .sl k x lo hi mx => v (sliceA k (ro tm x) (lo.map (ro tm)) (hi.map (ro tm)) (mx.map (ro tm)))
  | .fa off x => match ro tm x with
    | .ptr b o => some (.ptr b (o + off), h)
    | _ => none
  | .fld off n x => match ro tm x with
    | .agg cs => v (partOf cs off n)
    | _ => none
  | .iaArr n sz x i => match ro tm x, asNat (ro tm i) with
    | .ptr b o, some j => match Nat.blt j n with
      | true => some (.ptr b (o + j * sz), h)
      | false => none
    | _, _ => none
  | .iaSl sz x i => match asNat (ro tm i) with
    | some j => match ro tm x with
      | .slice b o len _ => match Nat.blt j len with
        | true => some (.ptr b (o + j * sz), h)
        | false => none
      | .gslice b o len _ => match Nat.blt j len with
        | true => some (.ptr b (o + j * sz), h)
        | false => none
      | _ => none
    | none => none
  | .ixArr n sz ag x i => match ro tm x, asNat (ro tm i) with
    | .agg cs, some j => match Nat.blt j n with
      | true => v (partOf cs (j * sz) ag)
      | false => none
    | _, _ => none
  | .ixStr x i => match ro tm x, asNat (ro tm i) with
    | .str s, some j => v (match nth s j with | some c => some (.int .u8 c) | none => none)
    | _, _ => none
  | .lk e zero ok m k => match kfits e (ro tm k) with
    | true => match (match ro tm m with
        | .nilm => some none
        | .map b => match h.get b with
          | some (.map es _) => findE h e (ro tm k) es
          | _ => none
        | _ => none) with
      | some (some (x, _)) => some (okPair ok x true, h)
      | some none => some (okPair ok zero false, h)
      | none => none
    | false => none
  | .mu e m k x => match ro tm m, kfits e (ro tm k) && keyv (ro tm k) with
    | .map b, true => match h.get b with
      | some (.map es clock) => match findE h e (ro tm k) es with
        | some (some _) => match setE h e (ro tm k) (some (ro tm x)) es with
          | some es' => some (.undef, h.set b (.map es' clock))
          | none => none
        | some none => some (.undef, h.set b (.map (es ++ [(ro tm k, ro tm x, clock)]) (clock + 1)))
        | none => none
      | _ => none
    | _, _ => none
  | .me e zero m k => match ro tm m, kfits e (ro tm k) && keyv (ro tm k) with
    | .map b, true => match h.get b with
      | some (.map es clock) => match findE h e (ro tm k) es with
        | some (some (x, n)) => match setE h e (ro tm k) none es with
          | some es' => some (.tup [x, .int .i64 n], h.set b (.map es' clock))
          | none => none
        | some none => some (.tup [zero, .int .i64 clock], h.set b (.map (es ++ [(ro tm k, zero, clock)]) (clock + 1)))
        | none => none
      | _ => none
    | _, _ => none
  | .es m s x => match ro tm m, asNat (ro tm s) with
    | .map b, some n => match h.get b with
      | some (.map es clock) => match setB n (ro tm x) es with
        | some es' => some (.undef, h.set b (.map es' clock))
        | none => none
      | _ => none
    | _, _ => none
  | .ta t ok zero x => match ro tm x with
    | .iface u y => match Nat.beq u t, ok with
      | true, true => some (.tup [y, .bool true], h)
      | true, false => some (y, h)
      | false, true => some (.tup [zero, .bool false], h)
      | false, false => none
    | .nili => match ok with
      | true => some (.tup [zero, .bool false], h)
      | false => none
    | _ => none
  | .ex x i => match ro tm x with
    | .tup vs => v (nth vs i)
    | _ => none
  | .blenStr x => match ro tm x with
    | .str s => some (.int .i64 s.length, h)
    | _ => none
  | .blenSl x => match ro tm x with
    | .nils => some (.int .i64 0, h)
    | .slice _ _ n _ => some (.int .i64 n, h)
    | .gslice _ _ n _ => some (.int .i64 n, h)
    | _ => none
  | .blenMap x => match ro tm x with
    | .nilm => some (.int .i64 0, h)
    | .map b => match h.get b with
      | some (.map es _) => some (.int .i64 es.length, h)
      | _ => none
    | _ => none
  | .blenArr n => some (.int .i64 n, h)
  | .bapp sz bytes s x => match lenA (ro tm x) with
    | some n => match firstN h sz n (ro tm x) with
      | some new => match Nat.beq new.length (n * sz) with
        | true => appA h sz bytes (ro tm s) n new
        | false => none
      | none => none
    | none => none
  | .bappZ sz bytes zero s x => match asNat (ro tm x) with
    | some n => match Nat.ble (n * bytes) 1099511627776 && Nat.ble n 1099511627776 && Nat.beq zero.length sz with
      | true => appA h sz bytes (ro tm s) n (rep zero n)
      | false => none
    | none => none
  | .bcap x => match ro tm x with
    | .nils => some (.int .i64 0, h)
    | .slice _ _ _ c => some (.int .i64 c, h)
    | _ => none
  | .bminmax mx xs => match xs.map (ro tm) with
    | x :: l => v (minmax mx x l)
    | [] => none
  | .bclear sz zero x => match ro tm x with
    | .nils => some (.undef, h)
    | .slice b o n _ => match Nat.beq n 0 with
      | true => some (.undef, h)
      | false => match Nat.beq zero.length sz with | true => u (writeCells h b o (rep zero n)) | false => none
    | .gslice b o n _ => match Nat.beq n 0 with
      | true => some (.undef, h)
      | false => match Nat.beq zero.length sz with | true => u (writeCells h b o (rep zero n)) | false => none
    | _ => none
  | .bcopy sz d s => match lenA (ro tm d), lenA (ro tm s) with
    | some n, some m => match firstN h sz (min n m) (ro tm s) with
      | some cs => match ro tm d with
        | .nils => some (.int .i64 0, h)
        | .slice b o _ _ => match Nat.beq (min n m) 0 with
          | true => some (.int .i64 0, h)
          | false => match writeCells h b o cs with | some h' => some (.int .i64 (min n m), h') | none => none
        | .gslice b o _ _ => match Nat.beq (min n m) 0 with
          | true => some (.int .i64 0, h)
          | false => match writeCells h b o cs with | some h' => some (.int .i64 (min n m), h') | none => none
        | _ => none
      | none => none
    | _, _ => none
  | .bdel e m k => match ro tm m, kfits e (ro tm k) with
    | .nilm, true => some (.undef, h)
    | .map b, true => match h.get b with
      | some (.map es clock) => match delE h e (ro tm k) es with
        | some es' => some (.undef, h.set b (.map es' clock))
        | none => none
      | _ => none
    | _, _ => none
  | .call _ _ => none

/-! ## Regions, code, calls -/
inductive Ex where
  | normal
  | exit (id : Nat)
  | ret

structure St where
  tm : Env
  h : Heap
  marks : List Nat
  round : Option Nat

def putD (tm : Env) (d : Option Nat) (x : AV) : Env :=
  match d with | some d => tm.put d x | none => tm

def wantedR (tm : Env) (g : Option (Nat × Bool)) : Bool :=
  match g with
  | none => true
  | some (s, want) => match Env.look tm s with
    | .bool b => b == want
    | _ => false

abbrev CallF := AV → List AV → Heap → Option (AV × Heap)

def oneOp (call : CallF) (tm : Env) (h : Heap) (op : ROp) : Option (AV × Heap) :=
  match op with
  | .call f args => call (ro tm f) (args.map (ro tm)) h
  | op => aop tm h op

def opsR (call : CallF) : List ROper → Env → Heap → Option (Env × Heap)
  | [], tm, h => some (tm, h)
  | o :: l, tm, h => match wantedR tm o.guard with
    | true => match oneOp call tm h o.op with
      | some (v, h') => opsR call l (putD tm o.dst v) h'
      | none => none
    | false => opsR call l (putD tm o.dst .undef) h

/-- what writes -/
def ROp.writes : ROp → Bool
  | .st _ _ _ | .mu _ _ _ _ | .me _ _ _ _ | .es _ _ _ | .call _ _ | .bapp _ _ _ _ | .bappZ _ _ _ _ _ | .bclear _ _ _ | .bcopy _ _ _ | .bdel _ _ _ => true
  | _ => false
/-- what reads memory -/
def ROp.reads : ROp → Bool
  | .ld _ _ | .lk _ _ _ _ _ | .blenMap _ | .cvOfBytes _ | .bin _ _ _ _ => true
  | _ => false

structure Pend where
  till : Nat
  tm : Env
  op : ROp
  v : AV

def stable (h : Heap) (k : Nat) : List Pend → Bool
  | [] => true
  | p :: l => (match Nat.blt p.till k with
    | true => true
    | false => match aop p.tm h p.op with
      | some (v, _) => aveq v p.v
      | none => false) && stable h k l

/-- A region whose order is drawn: 'k': how many writers were done; 'ps': what was read. -/
def dopsR (call : CallF) : List (ROper × Nat) → Nat → List Pend → Env → Heap → Option (Env × Heap)
  | [], _, _, tm, h => some (tm, h)
  | (o, till) :: l, k, ps, tm, h => match wantedR tm o.guard with
    | true => match oneOp call tm h o.op with
      | some (v, h') => match o.op.writes with
        | true => match stable h' (k + 1) ps with
          | true => dopsR call l (k + 1) ps (putD tm o.dst v) h'
          | false => none
        | false => dopsR call l k (match o.op.reads && Nat.blt k till with | true => ⟨till, tm, o.op, v⟩ :: ps | false => ps) (putD tm o.dst v) h'
      | none => none
    | false => dopsR call l (match o.op.writes with | true => k + 1 | false => k) ps (putD tm o.dst .undef) h

def setArgs : List AV → Nat → Env → Env
  | [], _, tm => tm
  | a :: l, i, tm => setArgs l (i + 1) (tm.put i a)
def setPs : List Nat → List AV → Env → Option Env
  | [], [], tm => some tm
  | p :: ps, a :: l, tm => setPs ps l (tm.put p a)
  | _, _, _ => none

def resultsA (tm : Env) (h : Heap) : List (Nat × Option (Option Nat)) → Option (List AV)
  | [] => some []
  | (t, none) :: l => match resultsA tm h l with | some m => some (Env.look tm t :: m) | none => none
  | (a, some n) :: l => match Env.look tm a with
    | .ptr b o => match (match h.cells b with | some cs => partOf cs o n | none => none), resultsA tm h l with
      | some v, some m => some (v :: m)
      | _, _ => none
    | _ => none
def one : List AV → AV
  | [v] => v
  | l => .tup l

def dropMarks : List Nat → Heap → Option Heap
  | [], h => some h
  | b :: l, h => match h.get b with
    | some (.deferred true) => dropMarks l (h.set b (.deferred false))
    | _ => none

abbrev Rec := RCode → St → Option (Ex × St)

def callFn (ih : Rec) (f : RFunc) (args : List AV) (h : Heap) : Option (AV × Heap) :=
  match ih f.body ⟨setArgs args 0 .nil, h, [], none⟩ with
  | some (.exit _, _) => none
  | some (_, s) => match dropMarks s.marks s.h with
    | some h' => match resultsA s.tm h' f.results with
      | some l => some (one l, h')
      | none => none
    | none => none
  | none => none

def yieldFn (ih : Rec) (L : Nat) (args : List AV) (h : Heap) : Option (AV × Heap) :=
  match h.get L with
  | some (.loop _ _ tm ps assign body _) => match setPs ps args tm with
    | some tm' => match ih assign ⟨tm', h, [], some L⟩ with
      | some (.normal, s) => match s.h.get L with
        | some (.loop .ready pend tm₁ ps₁ as₁ bd₁ d₁) => match ih body { s with h := s.h.set L (.loop .busy pend tm₁ ps₁ as₁ bd₁ d₁) } with
          | some (e, s') => match s'.marks, s'.h.get L with
            | [], some (.loop _ _ tm₂ ps₂ as₂ bd₂ d₂) => match e with
              | .normal => some (.bool true, s'.h.set L (.loop .ready none tm₂ ps₂ as₂ bd₂ d₂))
              | .ret => some (.bool false, s'.h.set L (.loop .done (some .ret) tm₂ ps₂ as₂ bd₂ d₂))
              | .exit id => some (.bool false, s'.h.set L (.loop .done (some (.exit id)) tm₂ ps₂ as₂ bd₂ d₂))
            | _, _ => none
          | none => none
        | _ => none
      | _ => none
    | none => none
  | _ => none

inductive Callee where
  | fn (f : RFunc)
  | mapClone

def mapCloneA (args : List AV) (h : Heap) : Option (AV × Heap) :=
  match args with
  | [.iface t (.map b)] => match h.get b with
    | some (.map es clock) => some (.iface t (.map h.next), h.push (.map es clock))
    | _ => none
  | _ => none

def callA (T : Nat → Option Callee) (ih : Rec) (f : AV) (args : List AV) (h : Heap) : Option (AV × Heap) :=
  match f with
  | .func f a b => match T f with
    | some (.fn rf) => callFn ih rf (a ++ args ++ b) h
    | some .mapClone => mapCloneA (a ++ args ++ b) h
    | none => none
  | .yield L => yieldFn ih L args h
  | _ => none

def loopEnd (L : Nat) (s : St) (h : Heap) : Option (Ex × St) :=
  match h.get L with
  | some (.loop .busy _ _ _ _ _ _) => none
  | some (.loop _ pend tm ps as bd d) => some (match pend with | none => .normal | some .ret => .ret | some (.exit id) => .exit id,
      { s with h := h.set L (.loop .exhausted pend tm ps as bd d) })
  | _ => none

def rangeR (call : CallF) (f : AV) (ps : List Nat) (assign body : RCode) (s : St) : Option (Ex × St) :=
  match s.round with
  | none =>
    let h1 := s.h.push (.deferred true)
    let h2 := h1.push (.loop .ready none s.tm ps assign body s.h.next)
    match call f [.yield h1.next] h2 with
    | some (_, h') => loopEnd h1.next { s with marks := s.h.next :: s.marks } h'
    | none => none
  | some l => match s.h.get l with
    | some (.loop _ _ _ _ _ _ d) =>
      let h2 := s.h.push (.loop .ready none s.tm ps assign body d)
      match call f [.yield s.h.next] h2 with
      | some (_, h') => loopEnd s.h.next s h'
      | none => none
    | _ => none

def evStep (T : Nat → Option Callee) (ih : Rec) : Rec := fun c s =>
  match c with
  | .skip => some (.normal, s)
  | .reg ops => match opsR (callA T ih) ops s.tm s.h with
    | some (tm, h) => some (.normal, { s with tm, h })
    | none => none
  | .dreg ops => match dopsR (callA T ih) ops 0 [] s.tm s.h with
    | some (tm, h) => some (.normal, { s with tm, h })
    | none => none
  | .dreg2 _ _ _ => none
  | .seq a b => match ih a s with
    | some (.normal, s') => ih b s'
    | r => r
  | .cond c a b => match ro s.tm c with
    | .bool true => ih a s
    | .bool false => ih b s
    | _ => none
  | .block id b => match ih b s with
    | some (.exit id', s') => match Nat.beq id' id with | true => some (.normal, s') | false => some (.exit id', s')
    | r => r
  | .loop b => match ih b s with
    | some (.normal, s') => ih (.loop b) s'
    | r => r
  | .rangeF f ps a b => rangeR (callA T ih) (ro s.tm f) ps a b s
  | .exit id => some (.exit id, s)
  | .ret => some (.ret, s)
  | .bad => none

def ev (T : Nat → Option Callee) : Nat → Rec
  | 0 => fun _ _ => none
  | n + 1 => evStep T (ev T n)

/-- A call. -/
def evCall (T : Nat → Option Callee) (n : Nat) (f : Nat) (args : List AV) (h : Heap) : Option (AV × Heap) :=
  callA T (ev T n) (.func f [] []) args h
end Go.Ev


namespace Go.Ev
/-! ## Resolving -/
def ofS : Value → Option AV
  | .bool b => some (.bool b)
  | .int k n => some (.int k n)
  | .string s => some (.str (s.data.toList.map UInt8.toNat))
  | .pointer none => some .nilp
  | .slice none 0 0 => some .nils
  | .map none => some .nilm
  | .nilFunc => some .nilf
  | .nilIface => some .nili
  | _ => none
def allM {α β : Type} (f : α → Option β) : List α → Option (List β)
  | [] => some []
  | a :: l => match f a, allM f l with
    | some b, some m => some (b :: m)
    | _, _ => none
def ofV : Value → Option AV
  | .agg cs => match allM ofS cs.toList with | some l => some (.agg l) | none => none
  | .tuple vs => match vs.size with | 0 => some .undef | _ => none
  | v => ofS v

variable (P : Program)
def szOf (t : TypeId) : Option Nat := (P.info? t).map (·.size)
def aggN (t : TypeId) : Option (Option Nat) :=
  match P.underlying t with
  | some (.struct _) => (szOf P t).map some
  | some (.array _ _) => (szOf P t).map some
  | some _ => some none
  | none => none
def zeroV (t : TypeId) : Option AV := match (P.info? t).bind (·.zero) with | some v => ofV v | none => none
def zeroC (t : TypeId) : Option (List AV) := match (P.info? t).bind (·.zero) with | some v => allM ofS v.cells.toList | none => none

/-- Is a type strings.Builder's? -/
def isBld (t : TypeId) : Bool := match P.types[t]? with | some i => (match i.desc with | .named n _ => n == "strings.Builder" | _ => false) | none => false
/-- Is a type byte's own? -/
def isU8 (t : TypeId) : Bool := match P.types[t]? with | some i => (match i.desc with | .int .u8 => true | _ => false) | none => false

def eqdF : Nat → TypeId → Option EqD
  | 0, _ => none
  | n + 1, t => match P.underlying t with
    | some .bool => some .bool
    | some (.int _) => some .int
    | some .string => some .str
    | some (.pointer e) => match szOf P e with | some (_ + 1) => some .ptr | _ => none
    | some (.interface _) => some .iface
    | some (.slice _) => some .nilS
    | some (.map _ _) => some .nilM
    | some (.func _ _ _) => some .nilF
    | some (.struct fs) => match P.stoodInHeld t with
      | true => none
      | false => match allM (fun (f : Field) => match aggN P f.type, eqdF n f.type with
          | some g, some e => some (f.offset, g, e) | _, _ => none) (fs.toList.filter (fun f => f.name != "_")) with
        | some l => some (.struct l)
        | none => none
    | some (.array len e) => match P.info? e, aggN P e, eqdF n e with
      | some i, some g, some d => some (.struct ((List.range len).map fun j => (j * i.size, g, d)))
      | _, _, _ => none
    | _ => none
def eqd (t : TypeId) : Option EqD := match P.eqGuardType P.depth t, P.underlying t with
  | true, some (.struct _) => none
  | true, some (.array _ _) => none
  | _, _ => eqdF P 8 t

def eqOf (op : BinOp) (t : TypeId) : Option EqD :=
  match op with
  | .eql => eqd P t
  | .neq => eqd P t
  | _ => none

def rso : Operand → Option RO
  | .tmp t => some (.t t)
  | .const v => match ofV v with | some a => some (.c a) | none => none
  | .func f => some (.c (.func f [] []))
  | .global _ => none


def partsOf (place : Nat → Option (Nat × Nat)) : List (Nat × Operand) → Option (List (Nat × Nat × RO))
  | [] => some []
  | (i, x) :: l => match place i, rso x, partsOf place l with
    | some (off, sz), some r, some m => some ((off, sz, r) :: m)
    | _, _, _ => none

def optM (f : Operand → Option RO) : Option Operand → Option (Option RO)
  | none => some none
  | some x => match f x with | some r => some (some r) | none => none

def resBuiltin (b : Builtin) (args : List Operand) (ts : List TypeId) : Option ROp :=
  match b, ts, args with
  | .len, t :: _, [x] => match P.underlying t, rso x with
    | some .string, some r => some (.blenStr r)
    | some (.slice _), some r => some (.blenSl r)
    | some (.map _ _), some r => some (.blenMap r)
    | some (.array n _), some _ => some (.blenArr n)
    | _, _ => none
  | .cap, t :: _, [x] => match P.underlying t, rso x with
    | some (.slice _), some r => some (.bcap r)
    | _, _ => none
  | .append, t :: u :: _, [s, x] => match P.underlying t, P.underlying u, rso s, rso x with
    | some (.slice e), some (.int _), some s, some x => match P.info? e, zeroC P e with
      | some i, some z => match Nat.beq z.length i.size with | true => some (.bappZ i.size i.bytes z s x) | false => none
      | _, _ => none
    | some (.slice e), some (.slice _), some s, some x => match P.info? e, zeroC P e with
      | some i, some z => match Nat.beq z.length i.size with | true => some (.bapp i.size i.bytes s x) | false => none
      | _, _ => none
    | some (.slice e), some .string, some s, some x => match P.info? e, zeroC P e with
      | some i, some z => match Nat.beq z.length i.size with | true => some (.bapp i.size i.bytes s x) | false => none
      | _, _ => none
    | _, _, _, _ => none
  | .max, _, xs => match allM rso xs with | some l => some (.bminmax true l) | none => none
  | .min, _, xs => match allM rso xs with | some l => some (.bminmax false l) | none => none
  | .clear, t :: _, [x] => match P.underlying t, rso x with
    | some (.slice e), some r => match szOf P e, zeroC P e with
      | some sz, some z => some (.bclear sz z r)
      | _, _ => none
    | _, _ => none
  | .copy, t :: _, [d, s] => match P.underlying t, rso d, rso s with
    | some (.slice e), some d, some s => match szOf P e with | some sz => some (.bcopy sz d s) | none => none
    | _, _, _ => none
  | .delete, t :: _, [m, k] => match P.underlying t, rso m, rso k with
    | some (.map kt _), some m, some k => match eqd P kt with | some e => some (.bdel e m k) | none => none
    | _, _, _ => none
  | _, _, _ => none

def resOp : Op → Option ROp
  | .move x => match rso x with | some r => some (.mv r) | none => none
  | .assign x => match rso x with | some r => some (.mv r) | none => none
  | .pick c a b => match rso c, rso a, rso b with | some c, some a, some b => some (.pick c a b) | _, _, _ => none
  | .alloc e => match isBld P e with
    | true => match zeroC P e with | some [.nilp, .nils] => some (.alloc [.undef]) | _ => none
    | false => match zeroC P e with | some z => (match z with | [.tup _] => none | _ => some (.alloc z)) | none => none
  | .box _ x => match rso x with | some r => some (.box r) | none => none
  | .build t ps => match P.underlying t, zeroC P t with
    | some (.struct fs), some z => match fs.toList.mapM (fun f => (P.info? f.type).map fun i => (f.offset, i.size)) with
      | some places => match partsOf (fun i => places[i]?) ps.toList with
        | some l => some (.build z l)
        | none => none
      | none => none
    | some (.array _ e), some z => match P.info? e with
      | some i => match partsOf (fun j => some (j * i.size, i.size)) ps.toList with
        | some l => some (.build z l)
        | none => none
      | none => none
    | _, _ => none
  | .buildSlice t len ps => match P.underlying t with
    | some (.slice e) => match P.info? e, zeroC P e with
      | some i, some z => match Nat.ble (len * i.size) 65536 && Nat.beq z.length i.size with
        | true => match partsOf (fun j => some (j * i.size, i.size)) ps.toList with
          | some l => some (.bslice len (rep z len) l)
          | none => none
        | false => none
      | _, _ => none
    | _ => none
  | .load t a => match aggN P t, rso a with | some n, some r => some (.ld n r) | _, _ => none
  | .store t a v => match szOf P t, rso a, rso v with | some n, some a, some v => some (.st n a v) | _, _, _ => none
  | .nilCheck x => match rso x with | some r => some (.nilck r) | none => none
  | .binOp op t x y _ => match rso x, rso y with
    | some a, some b => some (.bin op (eqOf P op t) a b)
    | _, _ => none
  | .unOp op _ x => match rso x with | some r => some (.un op r) | none => none
  | .convert s d x => match P.underlying s, P.underlying d, rso x with
    | some (.int _), some (.int k), some r => some (.cvInt k r)
    | some .string, some .string, some r => some (.cvStr r)
    | some .string, some (.slice e), some r => match P.underlying e with | some (.int .u8) => some (.cvBytes r) | _ => none
    | some (.slice e), some .string, some r => match P.underlying e with | some (.int .u8) => some (.cvOfBytes r) | _ => none
    | _, _, _ => none
  | .makeInterface t x => match P.underlying t, rso x with
    | some (.interface _), _ => none
    | some _, some r => some (.mkif t r)
    | _, _ => none
  | .makeFunc (.func f) a b => match allM rso a.toList, allM rso b.toList with | some a, some b => some (.mkfn f a b) | _, _ => none
  | .makeMap _ none => some .mkmap
  | .makeSlice t l c => match P.underlying t, rso l, rso c with
    | some (.slice e), some l, some c => match P.info? e, zeroC P e with
      | some i, some z => some (.mksl i.size i.bytes z l c)
      | _, _ => none
    | _, _, _ => none
  | .slice t x lo hi mx => match P.underlying t, rso x, optM rso lo, optM rso hi, optM rso mx with
    | some .string, some r, some lo, some hi, some mx => some (.sl .str r lo hi mx)
    | some (.slice e), some r, some lo, some hi, some mx => match szOf P e with | some sz => some (.sl (.sl sz) r lo hi mx) | none => none
    | some (.array n e), some r, some lo, some hi, some mx => match szOf P e with | some sz => some (.sl (.arr n sz) r lo hi mx) | none => none
    | _, _, _, _, _ => none
  | .fieldAddr s x i => match P.underlying s, rso x with
    | some (.struct fs), some r => match fs[i]? with
      | some f => match szOf P f.type with | some (_ + 1) => some (.fa f.offset r) | _ => none
      | none => none
    | _, _ => none
  | .field s x i => match P.underlying s, rso x with
    | some (.struct fs), some r => match fs[i]? with
      | some f => match aggN P f.type with | some n => some (.fld f.offset n r) | none => none
      | none => none
    | _, _ => none
  | .indexAddr t x i => match P.underlying t, rso x, rso i with
    | some (.array n e), some x, some i => match szOf P e with | some s => some (.iaArr n s x i) | none => none
    | some (.slice e), some x, some i => match szOf P e with | some s => some (.iaSl s x i) | none => none
    | _, _, _ => none
  | .index t x i => match P.underlying t, rso x, rso i with
    | some (.array n e), some x, some i => match szOf P e, aggN P e with | some s, some g => some (.ixArr n s g x i) | _, _ => none
    | some .string, some x, some i => some (.ixStr x i)
    | _, _, _ => none
  | .lookup t m k ok => match P.underlying t, rso m, rso k with
    | some (.map kt e), some m, some k => match eqd P kt, zeroV P e with | some d, some z => some (.lk d z ok m k) | _, _ => none
    | _, _, _ => none
  | .mapUpdate t m k v => match P.underlying t, rso m, rso k, rso v with
    | some (.map kt _), some m, some k, some v => match eqd P kt with | some d => some (.mu d m k v) | _ => none
    | _, _, _, _ => none
  | .insert t m k v => match P.underlying t, rso m, rso k, rso v with
    | some (.map kt _), some m, some k, some v => match eqd P kt with | some d => some (.mu d m k v) | _ => none
    | _, _, _, _ => none
  | .mapEntry t m k => match P.underlying t, rso m, rso k with
    | some (.map kt e), some m, some k => match eqd P kt, zeroV P e with | some d, some z => some (.me d z m k) | _, _ => none
    | _, _, _ => none
  | .entryStore _ m s v => match rso m, rso s, rso v with | some m, some s, some v => some (.es m s v) | _, _, _ => none
  | .typeAssert x _ t ok => match P.underlying t, rso x, zeroV P t with
    | some (.interface _), _, _ => none
    | some _, some r, some z => some (.ta t ok z r)
    | _, _, _ => none
  | .extract x i => match rso x with | some r => some (.ex r i) | none => none
  | .call { callee := .value f, args, .. } => match rso f, allM rso args.toList with | some f, some l => some (.call f l) | _, _ => none
  | .call { callee := .builtin b, args, argTypes } => resBuiltin P b args.toList argTypes.toList
  | _ => none

def resOper (n : Nat) (ops : Array Oper) (o : Oper) : Option ROper :=
  match resOp P o.op, (match o.dst with | none => true | some d => Nat.blt d n) with
  | some op, true => match o.guard with
    | none => some ⟨o.dst, op, none⟩
    | some (j, want) => match (ops[j]?).bind (·.dst) with
      | some s => some ⟨o.dst, op, some (s, want)⟩
      | none => none
  | _, _ => none

/-! ### Regions whose order is drawn -/
/-- 'done': the operations that were listed; the next one that is no writer, else the next writer. -/
def pickNext (ws : List Bool) (b : Array Nat) (n dn : Nat) : Option Nat :=
  let ready := (List.range n).filter fun i => !dn.testBit i && Nat.beq (b.getD i 0 &&& dn) (b.getD i 0)
  match ready.find? (fun i => match nth ws i with | some w => !w | none => true) with
  | some i => some i
  | none => ready.head?
def order (ws : List Bool) (b : Array Nat) (n : Nat) : Nat → Nat → List Nat
  | 0, _ => []
  | f + 1, dn => match pickNext ws b n dn with
    | some i => i :: order ws b n f (dn ||| 2 ^ i)
    | none => []
def tillOf (ws : List Bool) (b : Array Nat) (i : Nat) : Nat :=
  ((ws.zipIdx).filter fun (w, j) => w && !(b.getD j 0).testBit i).length

/-- The operands of an operation. -/
def ROp.ros : ROp → List RO
  | .mv x => [x] | .pick c a b => [c, a, b] | .alloc _ => [] | .box x => [x]
  | .build _ ps => ps.map (·.2.2) | .bslice _ _ ps => ps.map (·.2.2)
  | .ld _ a => [a] | .st _ a v => [a, v] | .nilck x => [x] | .bin _ _ x y => [x, y] | .un _ x => [x]
  | .cvInt _ x => [x] | .cvStr x => [x] | .cvBytes x => [x] | .cvOfBytes x => [x] | .mkif _ x => [x]
  | .mkfn _ a b => a ++ b | .mkmap => [] | .mksl _ _ _ l c => [l, c]
  | .sl _ x lo hi mx => x :: (lo.toList ++ hi.toList ++ mx.toList)
  | .fa _ x => [x] | .fld _ _ x => [x] | .iaArr _ _ x i => [x, i] | .iaSl _ x i => [x, i] | .ixArr _ _ _ x i => [x, i] | .ixStr x i => [x, i]
  | .lk _ _ _ m k => [m, k] | .mu _ m k v => [m, k, v] | .me _ _ m k => [m, k] | .es m s v => [m, s, v] | .ta _ _ _ x => [x] | .ex x _ => [x]
  | .call f args => f :: args
  | .blenStr x => [x] | .blenSl x => [x] | .blenMap x => [x] | .blenArr _ => []
  | .bapp _ _ s x => [s, x] | .bappZ _ _ _ s x => [s, x] | .bcap x => [x] | .bminmax _ xs => xs | .bclear _ _ x => [x] | .bcopy _ d s => [d, s] | .bdel _ m k => [m, k]

def bit (b : Array Nat) (i j : Nat) : Bool := Nat.beq (Nat.mod (Nat.shiftRight (b.getD i 0) j) 2) 1
def ROper.slots (q : ROper) : List Nat :=
  q.op.ros.filterMap (fun | .t s => some s | .c _ => none) ++ (match q.guard with | some (s, _) => [s] | none => [])
def isW (l : List ROper) (i : Nat) : Bool := match nth l i with | some q => q.op.writes | none => false
def nW (l : List ROper) (dn : List Nat) : Nat := (dn.filter (isW l)).length

def drawItem (l : List ROper) (till : Nat → Nat) (i : Nat) : Option (ROper × Nat) := match nth l i with | some o => some (o, till i) | none => none


/-! What is asked of an order. 'dn': what is listed ahead. -/
def slotB (l : List (ROper × Nat)) (b : Array Nat) (dn : List Nat) (i s : Nat) : Bool :=
  l.all fun p => match p.1.dst with
    | some d => match Nat.beq d s && !Nat.beq p.2 i with
      | true => match dn.contains p.2 with | true => bit b i p.2 | false => bit b p.2 i
      | false => true
    | none => true
def stepB (l : List ROper) (lz : List (ROper × Nat)) (b : Array Nat) (till : Nat → Nat) (dn : List Nat) (i : Nat) : Bool :=
  match nth l i with
  | some q => !dn.contains i && q.slots.all (slotB lz b dn i) && dn.all (fun j => !isW l j || bit b i j) &&
      (match q.op.writes with | true => dn.all (fun j => isW l j || !Nat.ble (till j) (nW l dn) || bit b i j) | false => true)
  | none => true
def stepsB (l : List ROper) (lz : List (ROper × Nat)) (b : Array Nat) (till : Nat → Nat) : List Nat → List Nat → Bool
  | _, [] => true
  | dn, i :: rest => stepB l lz b till dn i && stepsB l lz b till (dn ++ [i]) rest
def distB (lz : List (ROper × Nat)) : Bool := lz.all fun p => match p.1.dst with
  | some d => lz.all fun r => Nat.beq p.2 r.2 || (match r.1.dst with | some e => !Nat.beq d e | none => true)
  | none => true
/-- 'x': an edge beside those of the text: the first comes after the second. -/
def edgeB (x : Option (Nat × Nat)) (o : Oper) (i e : Nat) : Bool :=
  o.after.toList.any (fun d => Region.binds .any d && Nat.beq d.on e) || (match x with | some (s, t) => Nat.beq s i && Nat.beq t e | none => false)
def backB (ops : Array Oper) (x : Option (Nat × Nat)) : List Nat → List Nat → Bool
  | _, [] => true
  | dn, i :: rest => (match ops[i]? with
      | some o => o.after.toList.all (fun d => !Region.binds .any d || dn.contains d.on) && (match x with | some (s, t) => !Nat.beq s i || dn.contains t | none => true)
      | none => false) && backB ops x (dn ++ [i]) rest
def edgesB (ops : Array Oper) (x : Option (Nat × Nat)) (b : Array Nat) : Bool := ops.toList.zipIdx.all fun p =>
  (List.range ops.size).all fun j => !bit b p.2 j || (p.1.after.toList.any fun e => Region.binds .any e && (Nat.beq e.on j || bit b e.on j)) ||
    (match x with | some (s, t) => Nat.beq s p.2 && (Nat.beq t j || bit b t j) | none => false)
def drawB (ops : Array Oper) (x : Option (Nat × Nat)) (l : List ROper) (b : Array Nat) (till : Nat → Nat) (os : List Nat) : Bool :=
  (List.range ops.size).all (fun i => os.contains i) && os.all (fun i => Nat.blt i ops.size) && distB l.zipIdx && backB ops x [] os && edgesB ops x b && stepsB l l.zipIdx b till [] os

def resDraw (ops : Array Oper) (l : List ROper) : Option (List (ROper × Nat)) :=
  let b := Region.before ops
  let ws := l.map fun o => o.op.writes
  let os := order ws b l.length l.length 0
  let till := tillOf ws b
  match drawB ops none l b till os with
  | true => allM (drawItem l till) os
  | false => none

/-- The last two operations may come in either order. -/
def resDraw2 (ops : Array Oper) (l : List ROper) : Option (List (ROper × Nat) × (ROper × Nat) × (ROper × Nat)) :=
  match l.length with
  | n + 2 =>
    let b := Region.before ops
    let ws := l.map fun o => o.op.writes
    let till := tillOf ws b
    let os := (order ws b (n + 2) (n + 2) 0).filter (fun k => Nat.blt k n)
    let b1 := b.setIfInBounds (n + 1) (b.getD (n + 1) 0 ||| 2 ^ n ||| b.getD n 0)
    let b2 := b.setIfInBounds n (b.getD n 0 ||| 2 ^ (n + 1) ||| b.getD (n + 1) 0)
    match drawB ops (some (n + 1, n)) l b1 till (os ++ [n, n + 1]) && drawB ops (some (n, n + 1)) l b2 till (os ++ [n + 1, n]) with
    | true => match allM (drawItem l till) os, drawItem l till n, drawItem l till (n + 1) with
      | some pre, some p, some q => some (pre, p, q)
      | _, _, _ => none
    | false => none
  | _ => none

def resCode (n : Nat) : Code → Option RCode
  | .skip => some .skip
  | .label _ => some .skip
  | .region _ ops false => match allM (resOper P n ops) ops.toList with | some l => some (.reg l) | none => some .bad
  | .region _ ops true => match allM (resOper P n ops) ops.toList with
    | some l => match resDraw ops l with
      | some m => some (.dreg m)
      | none => match resDraw2 ops l with
        | some (pre, p, q) => some (.dreg2 pre p q)
        | none => some .bad
    | none => some .bad
  | .seq a b => match resCode n a, resCode n b with | some a, some b => some (.seq a b) | _, _ => none
  | .cond c a b => match rso c, resCode n a, resCode n b with | some c, some a, some b => some (.cond c a b) | _, _, _ => none
  | .block i b => match resCode n b with | some b => some (.block i b) | none => none
  | .loop b => match resCode n b with | some b => some (.loop b) | none => none
  | .scope b => resCode n b
  | .rangeFunc f ps a b => match rso f, resCode n a, resCode n b, ps.toList.all (fun i => Nat.blt i n) with | some f, some a, some b, true => some (.rangeF f ps.toList a b) | _, _, _, _ => none
  | .exit i => some (.exit i)
  | .ret => some .ret
  | .goto _ => some .bad
  | .refuse _ => some .bad

def resSlot (r : ResultVar) : Option (Nat × Option (Option Nat)) :=
  match r with
  | .tmp t => some (t, none)
  | .cell a t => match aggN P t with | some n => some (a, some n) | none => none

def resFunc (f : Func) : Option RFunc :=
  match f.body with
  | some c => match resCode P f.ntmps c, allM (resSlot P) f.results.toList with
    | some b, some rs => some ⟨b, rs⟩
    | _, _ => none
  | none => none
end Go.Ev

namespace Go.Ev

/-! ## Related values -/
structure Pl where
  blk : Nat
  n : Nat
abbrev Inj := Nat → Option Pl

mutual
def VR (ι : Inj) : AV → Value → Prop
  | .bool b, v => v = .bool b
  | .int k n, v => v = .int k n
  | .str l, v => ∃ s : ByteArray, v = .string s ∧ s.data.toList.map UInt8.toNat = l
  | .nilp, v => v = .pointer none
  | .ptr b o, v => ∃ p, ι b = some p ∧ v = .pointer (some ⟨p.blk, o, none⟩)
  | .nils, v => v = .slice none 0 0
  | .slice b o len cap, v => ∃ p o', ι b = some p ∧ v = .slice (some ⟨p.blk, o', none⟩) len cap ∧ len ≤ cap ∧ (o' = o ∨ cap = 0)
  | .gslice b o len sz, v => ∃ p o' c, ι b = some p ∧ v = .slice (some ⟨p.blk, o', none⟩) len c ∧ len ≤ c ∧ o + c * sz = p.n ∧ (o' = o ∨ c = 0)
  | .nilm, v => v = .map none
  | .map b, v => ∃ p, ι b = some p ∧ v = .map (some p.blk)
  | .nilf, v => v = .nilFunc
  | .func f a c, v => ∃ a' c' : Array Value, v = .func (.func f) a' c' ∧ VRs ι a a'.toList ∧ VRs ι c c'.toList
  | .yield b, v => ∃ p, ι b = some p ∧ v = .func (.yield p.blk) #[] #[]
  | .nili, v => v = .nilIface
  | .iface t x, v => ∃ y, v = .iface t y ∧ VR ι x y
  | .agg cs, v => ∃ c : Array Value, v = .agg c ∧ VRs ι cs c.toList
  | .tup cs, v => ∃ c : Array Value, v = .tuple c ∧ VRs ι cs c.toList
def VRs (ι : Inj) : List AV → List Value → Prop
  | [], l => l = []
  | a :: l, m => ∃ b m', m = b :: m' ∧ VR ι a b ∧ VRs ι l m'
end

def Le (ι ι' : Inj) : Prop := ∀ b p, ι b = some p → ι' b = some p
theorem Le.refl (ι : Inj) : Le ι ι := fun _ _ h => h
theorem Le.trans {a b c : Inj} (h : Le a b) (k : Le b c) : Le a c := fun x p hx => k x p (h x p hx)

mutual
theorem VR.mono {ι ι' : Inj} (h : Le ι ι') : ∀ (a : AV) (v : Value), VR ι a v → VR ι' a v
  | .bool _, _, hv => by simpa only [VR] using hv
  | .int _ _, _, hv => by simpa only [VR] using hv
  | .str _, _, hv => by simpa only [VR] using hv
  | .nilp, _, hv => by simpa only [VR] using hv
  | .ptr _ _, _, hv => by
    simp only [VR] at hv ⊢; obtain ⟨p, hp, e⟩ := hv; exact ⟨p, h _ _ hp, e⟩
  | .nils, _, hv => by simpa only [VR] using hv
  | .slice _ _ _ _, _, hv => by
    simp only [VR] at hv ⊢; obtain ⟨p, o, hp, e⟩ := hv; exact ⟨p, o, h _ _ hp, e⟩
  | .gslice _ _ _ _, _, hv => by
    simp only [VR] at hv ⊢; obtain ⟨p, o, c, hp, e⟩ := hv; exact ⟨p, o, c, h _ _ hp, e⟩
  | .nilm, _, hv => by simpa only [VR] using hv
  | .map _, _, hv => by
    simp only [VR] at hv ⊢; obtain ⟨p, hp, e⟩ := hv; exact ⟨p, h _ _ hp, e⟩
  | .nilf, _, hv => by simpa only [VR] using hv
  | .func _ a c, _, hv => by
    simp only [VR] at hv ⊢; obtain ⟨x, y, e, hx, hy⟩ := hv; exact ⟨x, y, e, VRs.mono h a _ hx, VRs.mono h c _ hy⟩
  | .yield _, _, hv => by
    simp only [VR] at hv ⊢; obtain ⟨p, hp, e⟩ := hv; exact ⟨p, h _ _ hp, e⟩
  | .nili, _, hv => by simpa only [VR] using hv
  | .iface _ x, _, hv => by
    simp only [VR] at hv ⊢; obtain ⟨y, e, hy⟩ := hv; exact ⟨y, e, VR.mono h x _ hy⟩
  | .agg cs, _, hv => by
    simp only [VR] at hv ⊢; obtain ⟨y, e, hy⟩ := hv; exact ⟨y, e, VRs.mono h cs _ hy⟩
  | .tup cs, _, hv => by
    simp only [VR] at hv ⊢; obtain ⟨y, e, hy⟩ := hv; exact ⟨y, e, VRs.mono h cs _ hy⟩
theorem VRs.mono {ι ι' : Inj} (h : Le ι ι') : ∀ (l : List AV) (m : List Value), VRs ι l m → VRs ι' l m
  | [], _, hv => by simpa only [VRs] using hv
  | a :: l, _, hv => by
    simp only [VRs] at hv ⊢; obtain ⟨b, m, e, hb, hm⟩ := hv; exact ⟨b, m, e, VR.mono h a _ hb, VRs.mono h l _ hm⟩
end

theorem VRs.nil {ι : Inj} {m : List Value} : VRs ι [] m ↔ m = [] := by simp only [VRs]
theorem VRs.cons {ι : Inj} {a : AV} {l : List AV} {m : List Value} : VRs ι (a :: l) m ↔ ∃ b m', m = b :: m' ∧ VR ι a b ∧ VRs ι l m' := by simp only [VRs]
theorem VRs.mk {ι : Inj} {a : AV} {l : List AV} {b : Value} {m : List Value} (h : VR ι a b) (k : VRs ι l m) : VRs ι (a :: l) (b :: m) := VRs.cons.2 ⟨b, m, rfl, h, k⟩

theorem VRs.length {ι : Inj} : ∀ {l : List AV} {m : List Value}, VRs ι l m → m.length = l.length
  | [], _, h => by rw [VRs.nil.1 h]; rfl
  | _ :: _, _, h => by
    obtain ⟨b, m', rfl, _, hm⟩ := VRs.cons.1 h
    simp [VRs.length hm]

theorem VRs.nth {ι : Inj} : ∀ {l : List AV} {m : List Value} {i : Nat} {a : AV}, VRs ι l m → Ev.nth l i = some a → ∃ v, m[i]? = some v ∧ VR ι a v
  | [], _, _, _, _, hn => by simp [Ev.nth] at hn
  | a :: l, _, i, x, h, hn => by
    obtain ⟨b, m', rfl, hb, hm⟩ := VRs.cons.1 h
    cases i with
    | zero => simp [Ev.nth] at hn; subst hn; exact ⟨b, rfl, hb⟩
    | succ i => simp only [Ev.nth] at hn; simpa using VRs.nth hm hn

theorem VRs.append {ι : Inj} : ∀ {l l' : List AV} {m m' : List Value}, VRs ι l m → VRs ι l' m' → VRs ι (l ++ l') (m ++ m')
  | [], _, _, _, h, k => by rw [VRs.nil.1 h]; simpa using k
  | _ :: _, _, _, _, h, k => by
    obtain ⟨b, m', rfl, hb, hm⟩ := VRs.cons.1 h
    exact VRs.mk hb (VRs.append hm k)

theorem takeN_spec {α : Type} : ∀ {n : Nat} {l m : List α}, takeN n l = some m → m = l.take n ∧ n ≤ l.length
  | 0, l, m, h => by simp [takeN] at h; subst h; simp
  | n + 1, [], m, h => by simp [takeN] at h
  | n + 1, a :: l, m, h => by
    simp only [takeN] at h
    cases h2 : takeN n l with
    | none => rw [h2] at h; simp at h
    | some m' =>
      rw [h2] at h; simp at h; subst h
      obtain ⟨e, hl⟩ := takeN_spec h2
      exact ⟨by rw [e]; rfl, by simp; exact hl⟩
theorem dropN_spec {α : Type} : ∀ {n : Nat} {l m : List α}, dropN n l = some m → m = l.drop n ∧ n ≤ l.length
  | 0, l, m, h => by simp [dropN] at h; subst h; simp
  | n + 1, [], m, h => by simp [dropN] at h
  | n + 1, a :: l, m, h => by
    simp only [dropN] at h
    obtain ⟨e, hl⟩ := dropN_spec h
    exact ⟨by rw [e]; rfl, by simp; exact hl⟩
theorem sub_spec {α : Type} {l m : List α} {o n : Nat} (h : sub l o n = some m) : m = (l.drop o).take n ∧ o + n ≤ l.length := by
  unfold sub at h
  cases h2 : dropN o l with
  | none => rw [h2] at h; simp at h
  | some m' =>
    rw [h2] at h
    obtain ⟨e, hl⟩ := dropN_spec h2
    obtain ⟨e', hl'⟩ := takeN_spec h
    subst e; subst e'
    refine ⟨rfl, ?_⟩
    simp at hl'
    omega
theorem over_spec {α : Type} : ∀ {vs l m : List α}, over l vs = some m → m = vs ++ l.drop vs.length ∧ vs.length ≤ l.length
  | [], l, m, h => by cases l <;> simp [over] at h <;> subst h <;> simp
  | v :: vs, [], m, h => by simp [over] at h
  | v :: vs, a :: l, m, h => by
    simp only [over] at h
    cases h2 : over l vs with
    | none => rw [h2] at h; simp at h
    | some m' =>
      rw [h2] at h; simp at h; subst h
      obtain ⟨e, hl⟩ := over_spec h2
      exact ⟨by rw [e]; simp, by simp; exact hl⟩
theorem splice_spec {α : Type} : ∀ {o : Nat} {l vs m : List α}, splice l o vs = some m → m = l.take o ++ vs ++ l.drop (o + vs.length) ∧ o + vs.length ≤ l.length
  | 0, l, vs, m, h => by
    have h' : over l vs = some m := by cases l <;> simpa [splice] using h
    obtain ⟨e, hl⟩ := over_spec h'
    exact ⟨by simpa using e, by omega⟩
  | o + 1, [], vs, m, h => by simp [splice] at h
  | o + 1, a :: l, vs, m, h => by
    simp only [splice] at h
    cases h2 : splice l o vs with
    | none => rw [h2] at h; simp at h
    | some m' =>
      rw [h2] at h; simp at h; subst h
      obtain ⟨e, hl⟩ := splice_spec h2
      refine ⟨?_, by simp; omega⟩
      have : o + 1 + vs.length = (o + vs.length) + 1 := by omega
      rw [e, this]; simp

theorem VRs.take {ι : Inj} : ∀ {n : Nat} {l : List AV} {m : List Value}, VRs ι l m → VRs ι (l.take n) (m.take n)
  | 0, _, _, _ => by simp [VRs.nil]
  | n + 1, [], _, h => by rw [VRs.nil.1 h]; simp [VRs.nil]
  | n + 1, _ :: _, _, h => by
    obtain ⟨b, m', rfl, hb, hm⟩ := VRs.cons.1 h
    exact VRs.mk hb (VRs.take hm)
theorem VRs.drop {ι : Inj} : ∀ {n : Nat} {l : List AV} {m : List Value}, VRs ι l m → VRs ι (l.drop n) (m.drop n)
  | 0, _, _, h => by simpa using h
  | n + 1, [], _, h => by rw [VRs.nil.1 h]; simp [VRs.nil]
  | n + 1, _ :: _, _, h => by
    obtain ⟨b, m', rfl, hb, hm⟩ := VRs.cons.1 h
    simpa using VRs.drop hm

/-- one cell -/
theorem VR.oneCell {ι : Inj} {a : AV} {v : Value} (h : VR ι a v) (hs : scalar a = true) : v.oneCell' = true := by
  cases a <;> simp only [VR] at h <;> first
    | (subst h; rfl)
    | (obtain ⟨_, rfl, _⟩ := h; rfl)
    | (obtain ⟨_, _, rfl⟩ := h; rfl)
    | (obtain ⟨_, _, _, _, rfl, _⟩ := h; rfl)
    | (obtain ⟨_, _, rfl, _⟩ := h; rfl)
    | (obtain ⟨_, _, _, rfl, _⟩ := h; rfl)
    | (simp [scalar] at hs)

theorem VR.cells {ι : Inj} {a : AV} {v : Value} (h : VR ι a v) : VRs ι a.cells v.cells.toList := by
  have one : ∀ {a : AV} {v : Value}, VR ι a v → VRs ι [a] [v] := fun h => VRs.mk h (VRs.nil.2 rfl)
  cases a with
  | agg cs => simp only [VR] at h; obtain ⟨c, rfl, hc⟩ := h; exact hc
  | _ =>
    have h' := h
    simp only [VR] at h
    first
      | (subst h; exact one h')
      | (obtain ⟨_, rfl, _⟩ := h; exact one h')
      | (obtain ⟨_, _, rfl⟩ := h; exact one h')
      | (obtain ⟨_, _, _, _, rfl, _⟩ := h; exact one h')
      | (obtain ⟨_, _, rfl, _⟩ := h; exact one h')
      | (obtain ⟨_, _, _, rfl, _⟩ := h; exact one h')

/-! ## Related worlds -/
def JR : Option Jump → Option Code → Prop
  | none, c => c = none
  | some .ret, c => c = some .ret
  | some (.exit i), c => c = some (.exit i)

def ER (ι : Inj) : List (AV × AV × Nat) → List MapEntry → Prop
  | [], l => l = []
  | (k, v, n) :: l, m => ∃ e m', m = e :: m' ∧ VR ι k e.key ∧ VR ι v e.val ∧ e.born = n ∧ ER ι l m'

theorem ER.mono {ι ι' : Inj} (h : Le ι ι') : ∀ {l : List (AV × AV × Nat)} {m : List MapEntry}, ER ι l m → ER ι' l m
  | [], _, hv => hv
  | (_, _, _) :: _, _, ⟨e, m', he, hk, hv, hb, hm⟩ => ⟨e, m', he, hk.mono h, hv.mono h, hb, hm.mono h⟩

def TmR (ι : Inj) (tm : Env) (tmps : Array Value) : Prop := ∀ i, VR ι (tm.look i) (tmps.getD i undef)
theorem TmR.mono {ι ι' : Inj} (h : Le ι ι') {tm : Env} {tmps : Array Value} (hv : TmR ι tm tmps) : TmR ι' tm tmps := fun i => (hv i).mono h

def BR (P : Program) (ι : Inj) (p : Pl) : AB → Option Obj → Prop
  | .cells cs g, x => ∃ (c : Array Value) (elem : TypeId) (lo hi : Nat), x = some (.cells c elem (lo, hi)) ∧ c.size = p.n ∧ VRs ι cs (c.toList.take cs.length) ∧ cs.length ≤ c.size ∧
      (g = false → c.size = cs.length ∧ hi ≤ lo) ∧ (hi ≤ lo ∨ c.size ≤ lo)
  | .map es clock, x => ∃ m : Array MapEntry, x = some (.map m clock) ∧ ER ι es m.toList
  | .loop st pend tm ps as bd d, x => ∃ (r : Loop) (n : Nat) (pd : Pl), x = some (.loop r) ∧ r.state = st ∧ JR pend r.pending ∧ TmR ι tm r.tmps ∧ n ≤ r.tmps.size ∧ r.params.toList = ps ∧
      resCode P n r.assign = some as ∧ resCode P n r.body = some bd ∧ (∀ i ∈ ps, i < n) ∧ ι d = some pd ∧ r.defers = pd.blk
  | .deferred true, x => x = some (.deferred (some []))
  | .deferred false, x => x = some (.deferred none)
  | .bld buf, x => ∃ (addr v : Value) (T : TypeId), x = some (.cells #[addr, v] T (0, 0)) ∧ isBld P T = true ∧ (addr = .pointer none ∨ addr = .pointer (some ⟨p.blk, 0, none⟩)) ∧
      (match buf with | none => v = .slice none 0 0 | some (c, n) => ∃ q, ι c = some q ∧ v = .slice (some ⟨q.blk, 0, none⟩) n q.n)
  | .bytes l, x => ∃ (c : Array Value) (e : TypeId) (fz : Nat × Nat), x = some (.cells c e fz) ∧ isU8 P e = true ∧ c.size = p.n ∧ p.n ≤ maxLen ∧ fz.2 ≤ l.length ∧ l.length ≤ c.size ∧ c.toList.take l.length = l.map (fun (n : Nat) => Value.int .u8 n) ∧
      ∃ s : List UInt8, s.map UInt8.toNat = l
  | .dead, _ => True

theorem BR.mono {P : Program} {ι ι' : Inj} (h : Le ι ι') {p : Pl} {ab : AB} {x : Option Obj} (hb : BR P ι p ab x) : BR P ι' p ab x := by
  cases ab with
  | cells cs g => obtain ⟨c, e, lo, hi, hx, hn, hv, r⟩ := hb; exact ⟨c, e, lo, hi, hx, hn, hv.mono h, r⟩
  | map es clock => obtain ⟨m, hx, hm⟩ := hb; exact ⟨m, hx, hm.mono h⟩
  | loop st pend tm ps as bd d =>
    obtain ⟨r, n, pd, hx, h1, h2, h3, h4, h5, h6, h7, h8, h9, h10⟩ := hb
    exact ⟨r, n, pd, hx, h1, h2, h3.mono h, h4, h5, h6, h7, h8, h _ _ h9, h10⟩
  | deferred b => cases b <;> exact hb
  | bld buf =>
    obtain ⟨addr, v, T, h1, h2, h3, h4⟩ := hb
    refine ⟨addr, v, T, h1, h2, h3, ?_⟩
    cases buf with
    | none => exact h4
    | some c => obtain ⟨q, g1, g2⟩ := h4; exact ⟨q, h _ _ g1, g2⟩
  | bytes l => exact hb
  | dead => trivial

/-- The one listed variable of the library's that is asked: its first place reads as laid, and nothing that is followed lies there. -/
def pow10Name : String := "internal/strconv.uint64pow10"
def GlobOK (P : Program) (ι : Inj) (w : World) : Prop := ∀ g, P.globalNamed pow10Name = some g → g < w.heap.size ∧ w.cell? ⟨g, 0, none⟩ = some (.int .u64 1) ∧ ∀ b p, ι b = some p → p.blk ≠ g
theorem GlobOK.step {P : Program} {ι ι' : Inj} {w w' : World} (h : GlobOK P ι w) (hle : ∀ b p, ι' b = some p → ι b = some p ∨ w.heap.size ≤ p.blk ∨ ∃ c q, ι c = some q ∧ q.blk = p.blk) (hs : w.heap.size ≤ w'.heap.size)
    (hsame : ∀ c, c < w.heap.size → (∀ b p, ι b = some p → p.blk ≠ c) → w'.heap[c]? = w.heap[c]?) : GlobOK P ι' w' := by
  intro g hg
  obtain ⟨h1, h2, h3⟩ := h g hg
  refine ⟨Nat.lt_of_lt_of_le h1 hs, ?_, fun b p hb => ?_⟩
  · have := hsame g h1 h3
    simp only [World.cell?, this] at h2 ⊢
    exact h2
  · rcases hle b p hb with h4 | h4 | ⟨c, q, h4, h5⟩
    · exact h3 b p h4
    · omega
    · rw [← h5]; exact h3 c q h4
theorem GlobOK.none {P : Program} {ι : Inj} {w : World} (h : GlobOK P ι w) : GlobOK P (fun _ => none) w := fun g hg => ⟨(h g hg).1, (h g hg).2.1, fun _ _ h => by cases h⟩

structure Rel (P : Program) (ι : Inj) (h : Heap) (w : World) : Prop where
  glob : GlobOK P ι w
  size : ∀ b p, ι b = some p → p.blk < w.heap.size
  dom : ∀ b p, ι b = some p → b < h.next
  blocks : ∀ b p ab, ι b = some p → h.get b = some ab → BR P ι p ab w.heap[p.blk]?
  inj : ∀ b c p q, ι b = some p → ι c = some q → p.blk = q.blk → b ≠ c → ∀ x y, h.get b = some x → h.get c = some y → x = .dead ∨ y = .dead
  wf : ∀ b, h.next ≤ b → h.get b = none

/-- Everything but the heap, and how much was drawn, is as it was. -/
structure Aside (w w' : World) : Prop where
  tape : w'.tape = w.tape
  os : w'.os = w.os
  output : w'.output = w.output
theorem Aside.refl (w : World) : Aside w w := ⟨rfl, rfl, rfl⟩
theorem Aside.trans {a b c : World} (h : Aside a b) (k : Aside b c) : Aside a c := ⟨k.tape.trans h.tape, k.os.trans h.os, k.output.trans h.output⟩

structure Ext (ι : Inj) (h : Heap) (w : World) (ι' : Inj) (h' : Heap) (w' : World) : Prop where
  le : Le ι ι'
  fresh : ∀ b p, ι' b = some p → ι b = none → h.next ≤ b ∧ (w.heap.size ≤ p.blk ∨ ∃ c q, ι c = some q ∧ q.blk = p.blk)
  size : w.heap.size ≤ w'.heap.size
  next : h.next ≤ h'.next
  same : ∀ c, c < w.heap.size → (∀ b p, ι b = some p → p.blk ≠ c) → w'.heap[c]? = w.heap[c]?
  habs : ∀ b, b < h.next → ι b = none → h'.get b = h.get b
  aside : Aside w w'

theorem GlobOK.of_ext {P : Program} {ι ι' : Inj} {h h' : Heap} {w w' : World} (g : GlobOK P ι w) (e : Ext ι h w ι' h' w') : GlobOK P ι' w' :=
  g.step (fun b p hb => by
    cases hn : ι b with
    | none => exact .inr (e.fresh b p hb hn).2
    | some q => have := e.le b q hn; rw [hb] at this; cases this; exact .inl rfl) e.size e.same

theorem Ext.refl (ι : Inj) (h : Heap) (w : World) : Ext ι h w ι h w where
  le := .refl ι
  fresh := fun b p hb hn => by rw [hn] at hb; cases hb
  size := Nat.le_refl _
  next := Nat.le_refl _
  same := fun _ _ _ => rfl
  habs := fun _ _ _ => rfl
  aside := .refl w

theorem Ext.trans {ι₀ ι₁ ι₂ : Inj} {h₀ h₁ h₂ : Heap} {w₀ w₁ w₂ : World} (a : Ext ι₀ h₀ w₀ ι₁ h₁ w₁) (b : Ext ι₁ h₁ w₁ ι₂ h₂ w₂) : Ext ι₀ h₀ w₀ ι₂ h₂ w₂ where
  le := a.le.trans b.le
  fresh := fun x p hx hn => by
    cases hm : ι₁ x with
    | some q =>
      have := b.le x q hm
      rw [this] at hx; cases hx
      exact a.fresh x p hm hn
    | none =>
      obtain ⟨h1, h2⟩ := b.fresh x p hx hm
      refine ⟨Nat.le_trans a.next h1, ?_⟩
      rcases h2 with h2 | ⟨c, q, hc, hq⟩
      · exact .inl (Nat.le_trans a.size h2)
      · cases hc0 : ι₀ c with
        | some q' =>
          have := a.le c q' hc0
          rw [this] at hc; cases hc
          exact .inr ⟨c, q, hc0, hq⟩
        | none => rw [← hq]; exact (a.fresh c q hc hc0).2
  size := Nat.le_trans a.size b.size
  next := Nat.le_trans a.next b.next
  same := fun c hc hn => by
    rw [b.same c (Nat.lt_of_lt_of_le hc a.size) ?_, a.same c hc hn]
    intro x p hx hp
    cases hm : ι₀ x with
    | some q =>
      have := a.le x q hm
      rw [this] at hx; cases hx
      exact hn x p hm hp
    | none =>
      rcases (a.fresh x p hx hm).2 with h2 | ⟨d, q, hd, hq⟩
      · omega
      · exact hn d q hd (hq.trans hp)
  habs := fun x hx hn => by
    rw [b.habs x (Nat.lt_of_lt_of_le hx a.next) ?_, a.habs x hx hn]
    cases hm : ι₁ x with
    | none => rfl
    | some q => have := (a.fresh x q hm hn).1; omega
  aside := a.aside.trans b.aside
end Go.Ev

namespace Go.Ev

/-! ## Tries -/
section
variable {α : Type}
theorem Tr.get_nil (k : Nat) : (Tr.nil : Tr α).get k = none := rfl
theorem Tr.get_zero (l : Tr α) (v : Option α) (r : Tr α) : (Tr.node l v r).get 0 = v := rfl
theorem Tr.get_succ (l : Tr α) (v : Option α) (r : Tr α) (k : Nat) : (Tr.node l v r).get (k + 1) = if k % 2 = 0 then l.get (k / 2) else r.get (k / 2) := by
  show @Nat.rec (fun _ => Option α) (l.get (k / 2)) (fun _ _ => r.get (k / 2)) (k % 2) = _
  cases h : k % 2 with
  | zero => rfl
  | succ n => rfl
theorem Tr.putF_nil_zero (x : Option α) (n : Nat) : Tr.putF x (n + 1) 0 .nil = .node .nil x .nil := rfl
theorem Tr.putF_nil_succ (x : Option α) (n k : Nat) : Tr.putF x (n + 1) (k + 1) .nil = if k % 2 = 0 then .node (Tr.putF x n (k / 2) .nil) none .nil else .node .nil none (Tr.putF x n (k / 2) .nil) := by
  show @Nat.rec (fun _ => Tr α) (.node (Tr.putF x n (k / 2) .nil) none .nil) (fun _ _ => .node .nil none (Tr.putF x n (k / 2) .nil)) (k % 2) = _
  cases h : k % 2 with
  | zero => rfl
  | succ n => rfl
theorem Tr.putF_node_zero (x : Option α) (n : Nat) (l : Tr α) (v : Option α) (r : Tr α) : Tr.putF x (n + 1) 0 (.node l v r) = .node l x r := rfl
theorem Tr.putF_node_succ (x : Option α) (n k : Nat) (l : Tr α) (v : Option α) (r : Tr α) : Tr.putF x (n + 1) (k + 1) (.node l v r) = if k % 2 = 0 then .node (Tr.putF x n (k / 2) l) v r else .node l v (Tr.putF x n (k / 2) r) := by
  show @Nat.rec (fun _ => Tr α) (.node (Tr.putF x n (k / 2) l) v r) (fun _ _ => .node l v (Tr.putF x n (k / 2) r)) (k % 2) = _
  cases h : k % 2 with
  | zero => rfl
  | succ n => rfl
theorem Tr.get_putF (x : Option α) : ∀ (fuel k : Nat) (t : Tr α) (j : Nat), k < fuel → (Tr.putF x fuel k t).get j = if j = k then x else t.get j
  | 0, k, _, _, h => by omega
  | n + 1, k, t, j, h => by
    cases k with
    | zero =>
      cases t with
      | nil =>
        rw [Tr.putF_nil_zero]
        cases j with
        | zero => simp [Tr.get_zero]
        | succ j => rw [Tr.get_succ]; simp [Tr.get_nil]
      | node l v r =>
        rw [Tr.putF_node_zero]
        cases j with
        | zero => simp [Tr.get_zero]
        | succ j => rw [Tr.get_succ, Tr.get_succ]; simp
    | succ k =>
      have ih := fun t => Tr.get_putF x n (k / 2) t
      cases t with
      | nil =>
        rw [Tr.putF_nil_succ]
        cases j with
        | zero => split <;> simp [Tr.get_zero, Tr.get_nil]
        | succ j =>
          by_cases hk : k % 2 = 0
          · rw [if_pos hk, Tr.get_succ]
            by_cases hj : j % 2 = 0
            · rw [if_pos hj, ih _ _ (by omega)]
              by_cases e : j = k
              · subst e; simp
              · rw [if_neg (by omega), if_neg (by omega)]; simp [Tr.get_nil]
            · rw [if_neg hj, if_neg (by omega)]; simp [Tr.get_nil]
          · rw [if_neg hk, Tr.get_succ]
            by_cases hj : j % 2 = 0
            · rw [if_pos hj, if_neg (by omega)]; simp [Tr.get_nil]
            · rw [if_neg hj, ih _ _ (by omega)]
              by_cases e : j = k
              · subst e; simp
              · rw [if_neg (by omega), if_neg (by omega)]; simp [Tr.get_nil]
      | node l v r =>
        rw [Tr.putF_node_succ]
        cases j with
        | zero => split <;> simp [Tr.get_zero]
        | succ j =>
          by_cases hk : k % 2 = 0
          · rw [if_pos hk, Tr.get_succ, Tr.get_succ]
            by_cases hj : j % 2 = 0
            · rw [if_pos hj, if_pos hj, ih _ _ (by omega)]
              by_cases e : j = k
              · subst e; simp
              · rw [if_neg (by omega), if_neg (by omega)]
            · rw [if_neg hj, if_neg hj, if_neg (by omega)]
          · rw [if_neg hk, Tr.get_succ, Tr.get_succ]
            by_cases hj : j % 2 = 0
            · rw [if_pos hj, if_pos hj, if_neg (by omega)]
            · rw [if_neg hj, if_neg hj, ih _ _ (by omega)]
              by_cases e : j = k
              · subst e; simp
              · rw [if_neg (by omega), if_neg (by omega)]
end

theorem Tr.get_put {α : Type} (t : Tr α) (k : Nat) (x : α) (j : Nat) : (t.put k x).get j = if j = k then some x else t.get j := Tr.get_putF _ _ _ _ _ (by omega)

@[simp] theorem Heap.get_set (h : Heap) (b : Nat) (x : AB) (c : Nat) : (h.set b x).get c = if c = b then some x else h.get c := Tr.get_put _ _ _ _
@[simp] theorem Heap.get_push (h : Heap) (x : AB) (c : Nat) : (h.push x).get c = if c = h.next then some x else h.get c := Tr.get_put _ _ _ _
@[simp] theorem Heap.next_set (h : Heap) (b : Nat) (x : AB) : (h.set b x).next = h.next := rfl
@[simp] theorem Heap.next_push (h : Heap) (x : AB) : (h.push x).next = h.next + 1 := rfl

theorem Env.look_put (tm : Env) (k : Nat) (x : AV) (j : Nat) : Env.look (tm.put k x) j = if j = k then x else tm.look j := by
  unfold Env.look
  rw [Tr.get_put]
  by_cases h : j = k
  · simp [h]
  · simp [h]
theorem Env.look_nil (j : Nat) : Env.look .nil j = .undef := rfl

theorem TmR.put {ι : Inj} {tm : Env} {tmps : Array Value} (h : TmR ι tm tmps) {d : Nat} {a : AV} {v : Value} (hd : d < tmps.size) (hv : VR ι a v) :
    TmR ι (tm.put d a) (tmps.setIfInBounds d v) := by
  intro i
  rw [Env.look_put]
  by_cases e : i = d
  · subst e
    simp [Array.getD, hd, hv]
  · rw [if_neg e]
    have := h i
    have hne : d ≠ i := fun x => e x.symm
    simpa [Array.getD_eq_getD_getElem?, Array.getElem?_setIfInBounds_ne hne] using this

theorem VR.undef (ι : Inj) : VR ι .undef Go.undef := by
  simp only [AV.undef, VR, Go.undef]
  exact ⟨#[], rfl, VRs.nil.2 rfl⟩

/-! ## A new block -/
def Inj.add (ι : Inj) (b : Nat) (p : Pl) : Inj := fun c => if c = b then some p else ι c
theorem Inj.le_add {ι : Inj} {b : Nat} {p : Pl} (h : ι b = none) : Le ι (ι.add b p) := by
  intro c q hc
  unfold Inj.add
  split
  · rename_i e; subst e; rw [h] at hc; cases hc
  · exact hc
theorem Inj.add_same (ι : Inj) (b : Nat) (p : Pl) : ι.add b p b = some p := by simp [Inj.add]

theorem Rel.next_none {P : Program} {ι : Inj} {h : Heap} {w : World} (r : Rel P ι h w) : ι h.next = none := by
  cases hn : ι h.next with
  | none => rfl
  | some p => have := r.dom _ _ hn; omega

/-- A block 'b' that has no place yet gets one: the new block of the world. -/
theorem Rel.alloc_at {P : Program} {ι : Inj} {h : Heap} {w : World} (r : Rel P ι h w) {b n : Nat} {ab : AB} {o : Obj} (hb : ι b = none) (hlt : b < h.next) (hg : h.get b = some ab)
    (hr : ∀ ι', Le ι ι' → BR P ι' ⟨w.heap.size, n⟩ ab (some o)) : Rel P (ι.add b ⟨w.heap.size, n⟩) h (w.alloc o) where
  glob := by
    refine r.glob.step (fun c p hc => ?_) (by rw [World.size_alloc]; omega) (fun c hc _ => ?_)
    · unfold Inj.add at hc
      split at hc
      · cases hc; exact .inr (.inl (Nat.le_refl _))
      · exact .inl hc
    · show (w.heap.push o)[c]? = _
      rw [Array.getElem?_push, if_neg (by omega)]
  size := by
    intro c p hc
    unfold Inj.add at hc
    rw [World.size_alloc]
    split at hc
    · cases hc; simp
    · have := r.size c p hc; omega
  dom := by
    intro c p hc
    unfold Inj.add at hc
    split at hc
    · rename_i e; subst e; exact hlt
    · exact r.dom c p hc
  blocks := by
    intro c p ab' hc hg'
    unfold Inj.add at hc
    split at hc
    · rename_i e; subst e; cases hc
      rw [hg] at hg'; cases hg'
      have : (w.alloc o).heap[w.heap.size]? = some o := by show (w.heap.push o)[w.heap.size]? = some o; simp
      rw [this]
      exact hr _ (Inj.le_add hb)
    · have hs := r.size c p hc
      have : (w.alloc o).heap[p.blk]? = w.heap[p.blk]? := by
        show (w.heap.push o)[p.blk]? = _
        rw [Array.getElem?_push, if_neg (by omega)]
      rw [this]
      exact (r.blocks c p ab' hc hg').mono (Inj.le_add hb)
  inj := by
    intro c d p q hc hd hpq hne
    unfold Inj.add at hc hd
    split at hc
    · rename_i e; subst e; cases hc
      split at hd
      · rename_i e2; exact absurd e2.symm hne
      · have := r.size d q hd; simp at hpq; omega
    · split at hd
      · rename_i e2; subst e2; cases hd
        have := r.size c p hc; simp at hpq; omega
      · exact r.inj c d p q hc hd hpq hne
  wf := r.wf

theorem Rel.grow {P : Program} {ι : Inj} {h : Heap} {w : World} (r : Rel P ι h w) (ab : AB) : Rel P ι (h.push ab) w where
  glob := r.glob
  size := r.size
  dom := fun b p hb => Nat.lt_succ_of_lt (r.dom b p hb)
  blocks := by
    intro b p ab' hb hg
    rw [Heap.get_push] at hg
    have := r.dom b p hb
    rw [if_neg (by omega)] at hg
    exact r.blocks b p ab' hb hg
  inj := by
    intro b c p q hb hc hpq hne
    rw [Heap.get_push, Heap.get_push, if_neg (by have := r.dom b p hb; omega), if_neg (by have := r.dom c q hc; omega)]
    exact r.inj b c p q hb hc hpq hne
  wf := by
    intro b hb
    rw [Heap.next_push] at hb
    rw [Heap.get_push, if_neg (by omega)]
    exact r.wf b (by omega)

theorem Rel.alloc {P : Program} {ι : Inj} {h : Heap} {w : World} (r : Rel P ι h w) {n : Nat} {ab : AB} {o : Obj}
    (hr : ∀ ι', Le ι ι' → BR P ι' ⟨w.heap.size, n⟩ ab (some o)) :
    Rel P (ι.add h.next ⟨w.heap.size, n⟩) (h.push ab) (w.alloc o) ∧ Ext ι h w (ι.add h.next ⟨w.heap.size, n⟩) (h.push ab) (w.alloc o) := by
  refine ⟨(r.grow ab).alloc_at r.next_none (by simp) (by simp) hr, ?_⟩
  exact {
    le := Inj.le_add r.next_none
    fresh := by
      intro b p hb hn
      unfold Inj.add at hb
      split at hb
      · rename_i e; subst e; cases hb; exact ⟨Nat.le_refl _, .inl (Nat.le_refl _)⟩
      · rw [hn] at hb; cases hb
    size := by rw [World.size_alloc]; omega
    next := by simp
    same := by
      intro c hc _
      show (w.heap.push o)[c]? = _
      rw [Array.getElem?_push, if_neg (by omega)]
    habs := by
      intro b hb _
      rw [Heap.get_push, if_neg (by omega)]
    aside := ⟨rfl, rfl, rfl⟩ }

/-- Drawing turns nothing else. -/
theorem Rel.drew {P : Program} {ι : Inj} {h : Heap} {w : World} (r : Rel P ι h w) : Rel P ι h w.drew := ⟨r.glob, r.size, r.dom, r.blocks, r.inj, r.wf⟩
theorem Ext.drew (ι : Inj) (h : Heap) (w : World) : Ext ι h w ι h w.drew where
  le := .refl ι
  fresh := fun b p hb hn => by rw [hn] at hb; cases hb
  size := Nat.le_refl _
  next := Nat.le_refl _
  same := fun _ _ _ => rfl
  habs := fun _ _ _ => rfl
  aside := ⟨rfl, rfl, rfl⟩

/-! ## An old block that becomes another one -/
theorem Rel.update {P : Program} {ι : Inj} {h : Heap} {w w' : World} (r : Rel P ι h w) {b : Nat} {p : Pl} {ab ab₀ : AB} (hb : ι b = some p) (hold : h.get b = some ab₀) (hlive : ab₀ ≠ .dead)
    (hs : w'.heap.size = w.heap.size) (hsame : ∀ c, c ≠ p.blk → w'.heap[c]? = w.heap[c]?) (hnew : BR P ι p ab w'.heap[p.blk]?) (ha : Aside w w') :
    Rel P ι (h.set b ab) w' ∧ Ext ι h w ι (h.set b ab) w' := by
  constructor
  · exact {
      glob := r.glob.step (fun c q hc => .inl hc) (by rw [hs]; exact Nat.le_refl _) (fun c _ hn => hsame c (fun e => hn b p hb e.symm))
      size := fun c q hc => by rw [hs]; exact r.size c q hc
      dom := r.dom
      blocks := by
        intro c q ab' hc hg
        rw [Heap.get_set] at hg
        split at hg
        · rename_i e; subst e; cases hg
          rw [hb] at hc; cases hc
          exact hnew
        · rename_i e
          by_cases hq : q.blk = p.blk
          · rcases r.inj c b q p hc hb hq e _ _ hg hold with hd | hd
            · subst hd; trivial
            · exact absurd hd hlive
          · rw [hsame _ hq]; exact r.blocks c q ab' hc hg
      inj := by
        intro c d q s hc hd hqs hne x y hx hy
        rw [Heap.get_set] at hx hy
        have := r.inj c d q s hc hd hqs hne
        by_cases e1 : c = b
        · subst e1
          rw [if_neg (Ne.symm hne)] at hy
          rcases this _ _ hold hy with h1 | h1
          · exact absurd h1 hlive
          · exact .inr h1
        · rw [if_neg e1] at hx
          by_cases e2 : d = b
          · subst e2
            rcases this _ _ hx hold with h1 | h1
            · exact .inl h1
            · exact absurd h1 hlive
          · rw [if_neg e2] at hy; exact this _ _ hx hy
      wf := by
        intro c hc
        rw [Heap.next_set] at hc
        have := r.dom b p hb
        rw [Heap.get_set, if_neg (by omega)]
        exact r.wf c hc }
  · exact {
      le := .refl ι
      fresh := fun c q hc hn => by rw [hn] at hc; cases hc
      size := by rw [hs]; exact Nat.le_refl _
      next := Nat.le_refl _
      same := fun c _ hn => hsame c (fun e => hn b p hb e.symm)
      habs := by
        intro c _ hn
        rw [Heap.get_set, if_neg]
        intro e; subst e; rw [hb] at hn; cases hn
      aside := ha }
end Go.Ev

namespace Go.Ev
open Go

/-! ## Operands -/
theorem ofS_VR (ι : Inj) {v : Value} {a : AV} (h : ofS v = some a) : VR ι a v := by
  unfold ofS at h
  split at h <;> first
    | (cases h; simp only [VR]; done)
    | (cases h; simp only [VR]; exact ⟨_, rfl, rfl⟩)
    | cases h

theorem allM_nil {α β : Type} {f : α → Option β} {m : List β} (h : allM f [] = some m) : m = [] := by simpa [allM] using h.symm
theorem allM_cons {α β : Type} {f : α → Option β} {a : α} {l : List α} {m : List β} (h : allM f (a :: l) = some m) : ∃ b m', f a = some b ∧ allM f l = some m' ∧ m = b :: m' := by
  simp only [allM] at h
  split at h
  · rename_i b m' h1 h2; cases h; exact ⟨b, m', h1, h2, rfl⟩
  · cases h

theorem ofSs_VRs (ι : Inj) : ∀ {l : List Value} {m : List AV}, allM ofS l = some m → VRs ι m l
  | [], m, h => by rw [allM_nil h]; exact VRs.nil.2 rfl
  | v :: l, m, h => by
    obtain ⟨b, m', h1, h2, rfl⟩ := allM_cons h
    exact VRs.mk (ofS_VR ι h1) (ofSs_VRs ι h2)

theorem ofV_VR (ι : Inj) {v : Value} {a : AV} (h : ofV v = some a) : VR ι a v := by
  unfold ofV at h
  split at h
  · rename_i cs
    split at h
    · rename_i l hl; cases h; simp only [VR]; exact ⟨cs, rfl, ofSs_VRs ι hl⟩
    · cases h
  · rename_i vs
    split at h
    · rename_i hs
      cases h
      have : vs = #[] := by simpa using hs
      subst this
      exact VR.undef ι
    · cases h
  · exact ofS_VR ι h

theorem rso_VR {ι : Inj} {tm : Env} {a : Act} (ht : TmR ι tm a.tmps) {x : Operand} {r : RO} (h : rso x = some r) : VR ι (ro tm r) (a.eval x) := by
  unfold rso at h
  split at h
  · cases h; exact ht _
  · split at h
    · rename_i hv; cases h; exact ofV_VR ι hv
    · cases h
  · cases h
    simp only [ro, Act.eval, VR]
    exact ⟨#[], #[], rfl, VRs.nil.2 rfl, VRs.nil.2 rfl⟩
  · cases h

/-! ## What an operation comes to -/
def Good (P : Program) (ι : Inj) (h : Heap) (w : World) (v : AV) (h' : Heap) (v' : Value) (w' : World) : Prop :=
  ∃ ι', VR ι' v v' ∧ Rel P ι' h' w' ∧ Ext ι h w ι' h' w'

def OpRuns (P : Program) (ι : Inj) (h : Heap) (w : World) (v : AV) (h' : Heap) (r : Result Next) : Prop :=
  ∃ v' w', (r = .ok (.value v') w' ∨ (r = .ok .skip w' ∧ v' = undef)) ∧ Good P ι h w v h' v' w'

theorem Good.here {P : Program} {ι : Inj} {h : Heap} {w : World} (r : Rel P ι h w) {v : AV} {v' : Value} (hv : VR ι v v') : Good P ι h w v h v' w :=
  ⟨ι, hv, r, .refl ι h w⟩
theorem OpRuns.here {P : Program} {ι : Inj} {h : Heap} {w : World} (r : Rel P ι h w) {v : AV} {v' : Value} (hv : VR ι v v') : OpRuns P ι h w v h (.ok (.value v') w) :=
  ⟨v', w, .inl rfl, .here r hv⟩
theorem OpRuns.of {P : Program} {ι : Inj} {h h' : Heap} {w w' : World} {v : AV} {v' : Value} {x : Result Next} (e : x = .ok (.value v') w') (g : Good P ι h w v h' v' w') : OpRuns P ι h w v h' x :=
  ⟨v', w', .inl e, g⟩

section
variable {P : Program} {ι : Inj} {h h' : Heap} {w : World} {tm : Env} {a : Act} {v : AV}

/-- For operations whose run is that of a value. -/
theorem run_v (s : Sem Value) {r : Result Value} (e : s.run P w = r) : ((do pure (Next.value (← s)) : Sem Next)).run P w = r.andThen fun v w' => .ok (.value v) w' := by
  rw [← e]; simp

/-! ### alloc, box -/
theorem zeroC_spec {t : TypeId} {z : List AV} (hz : zeroC P t = some z) : ∃ i zv, P.info? t = some i ∧ i.zero = some zv ∧ ∀ ι, VRs ι z zv.cells.toList := by
  unfold zeroC at hz
  split at hz
  · rename_i zv he
    cases hi : P.info? t with
    | none => rw [hi] at he; simp at he
    | some i =>
      rw [hi] at he
      simp at he
      exact ⟨i, zv, rfl, he, fun ι => ofSs_VRs ι hz⟩
  · cases hz

theorem run_zeroValue {t : TypeId} {i : TypeInfo} {zv : Value} (hi : P.info? t = some i) (hz : i.zero = some zv) (w : World) : (zeroValue t).run P w = .ok zv w := by
  simp [zeroValue, typeInfo, hi, hz]
theorem run_sizeOf {t : TypeId} {i : TypeInfo} (hi : P.info? t = some i) (w : World) : (sizeOf t).run P w = .ok i.size w := by
  simp [sizeOf, typeInfo, hi]

theorem VRs.take_all {ι : Inj} {l : List AV} {m : List Value} (hv : VRs ι l m) : VRs ι l (m.take l.length) := by
  have := hv.length
  rw [List.take_of_length_le (by omega)]; exact hv

theorem BR.fresh {ι : Inj} {cs : List AV} {c : Array Value} {n : Nat} (elem : TypeId) (hv : VRs ι cs c.toList) (blk : Nat) (hn : n = c.size) (g : Bool) :
    BR P ι ⟨blk, n⟩ (.cells cs g) (some (.cells c elem)) := by
  refine ⟨c, elem, 0, 0, rfl, hn.symm, hv.take_all, ?_, fun _ => ⟨?_, Nat.le_refl _⟩, .inl (Nat.le_refl _)⟩
  · have := hv.length; simp at this; omega
  · have := hv.length; simpa using this

/-- a new row of cells -/
theorem Good.row (r : Rel P ι h w) {cs : List AV} {c : Array Value} (elem : TypeId) (hv : VRs ι cs c.toList) (g : Bool) :
    ∃ ι', Le ι ι' ∧ ι' h.next = some ⟨w.heap.size, c.size⟩ ∧ Rel P ι' (h.push (.cells cs g)) (w.alloc (.cells c elem)) ∧ Ext ι h w ι' (h.push (.cells cs g)) (w.alloc (.cells c elem)) := by
  have := r.alloc (n := c.size) (ab := .cells cs g) (o := .cells c elem) (fun ι' hl => BR.fresh elem (hv.mono hl) _ rfl g)
  exact ⟨_, this.2.le, Inj.add_same _ _ _, this.1, this.2⟩


/-- How each operation's soundness is said. -/
def Sound (P : Program) (op₀ : Op) : Prop := ∀ {ι : Inj} {h h' : Heap} {w : World} {tm : Env} {a : Act} {v : AV} {op : ROp} {o : Oper}, Rel P ι h w → TmR ι tm a.tmps → o.op = op₀ → resOp P op₀ = some op →
  aop tm h op = some (v, h') → OpRuns P ι h w v h' ((execOp a.eval o).run P w)

theorem sound_move (x : Operand) : Sound P (.move x) := by
  intro ι h h' w tm a v op o r ht ho hres hv
  simp only [resOp] at hres
  split at hres
  · rename_i q hq
    cases hres
    simp only [aop] at hv
    cases hv
    have := rso_VR ht hq
    simp only [execOp, ho]
    exact .here r this
  · cases hres

theorem sound_assign (x : Operand) : Sound P (.assign x) := by
  intro ι h h' w tm a v op o r ht ho hres hv
  simp only [resOp] at hres
  split at hres
  · rename_i q hq
    cases hres
    simp only [aop] at hv
    cases hv
    have := rso_VR ht hq
    simp only [execOp, ho]
    exact .here r this
  · cases hres

theorem VR.bool {ι : Inj} {b : Bool} {v : Value} (h : VR ι (.bool b) v) : v = .bool b := by simpa only [VR] using h
theorem VR.int {ι : Inj} {k : IntKind} {n : Int} {v : Value} (h : VR ι (.int k n) v) : v = .int k n := by simpa only [VR] using h

theorem sound_pick (c x y : Operand) : Sound P (.pick c x y) := by
  intro ι h h' w tm a v op o r ht ho hres hv
  simp only [resOp] at hres
  split at hres
  · rename_i qc qx qy hc hx hy
    cases hres
    simp only [aop] at hv
    have ec := rso_VR ht hc
    simp only [execOp, ho]
    split at hv
    · rename_i e
      cases hv
      rw [e] at ec
      have := rso_VR ht hx
      simp only [ec.bool, asBool, Sem.run_bind, Sem.run_pure, Result.andThen_ok]
      exact .here r this
    · rename_i e
      cases hv
      rw [e] at ec
      have := rso_VR ht hy
      simp only [ec.bool, asBool, Sem.run_bind, Sem.run_pure, Result.andThen_ok]
      exact .here r this
    · cases hv
  · cases hres

/-- What an allocation is resolved to. -/
theorem res_alloc {elem : TypeId} {op : ROp} (hres : resOp P (.alloc elem) = some op) :
    ∃ z zv i, op = .alloc z ∧ P.info? elem = some i ∧ i.zero = some zv ∧ ∀ ι blk, BR P ι ⟨blk, zv.cells.size⟩ (zeroAB z) (some (.cells zv.cells elem)) := by
  simp only [resOp] at hres
  split at hres
  · rename_i hb
    split at hres
    · rename_i hz
      cases hres
      obtain ⟨i, zv, hi, hzv, hvr⟩ := zeroC_spec hz
      refine ⟨_, zv, i, rfl, hi, hzv, fun ι blk => ?_⟩
      obtain ⟨a, m, e1, h1, h2⟩ := VRs.cons.1 (hvr ι)
      obtain ⟨b, m', e2, h3, h4⟩ := VRs.cons.1 h2
      rw [VRs.nil.1 h4] at e2
      rw [e2] at e1
      simp only [VR] at h1 h3
      subst h1; subst h3
      have : zv.cells = #[.pointer none, .slice none 0 0] := by apply Array.ext'; simpa using e1
      exact ⟨.pointer none, .slice none 0 0, elem, by rw [this], hb, .inl rfl, rfl⟩
    · cases hres
  · split at hres
    · rename_i z hz
      have hne : ∀ l, z ≠ [.tup l] := by
        intro l e; rw [e] at hres; cases hres
      have hop : op = .alloc z := by
        split at hres
        · cases hres
        · cases hres; rfl
      obtain ⟨i, zv, hi, hzv, hvr⟩ := zeroC_spec hz
      refine ⟨z, zv, i, hop, hi, hzv, fun ι blk => ?_⟩
      have : zeroAB z = .cells z false := by
        unfold zeroAB
        split
        · rename_i l; exact absurd rfl (hne l)
        · rfl
      rw [this]
      exact BR.fresh elem (hvr ι) blk rfl false
    · cases hres

theorem sound_alloc (elem : TypeId) : Sound P (.alloc elem) := by
  intro ι h h' w tm a v op o r ht ho hres hv
  obtain ⟨z, zv, i, rfl, hi, hzv, hbr⟩ := res_alloc hres
  simp only [aop] at hv
  cases hv
  have := r.alloc (n := zv.cells.size) (ab := zeroAB z) (o := .cells zv.cells elem) (fun ι' _ => hbr ι' w.heap.size)
  refine .of (v' := .pointer (some ⟨w.heap.size, 0, none⟩)) (w' := w.alloc (.cells zv.cells elem)) ?_ ⟨_, ?_, this.1, this.2⟩
  · simp [execOp, ho, Instr.alloc, newVar, newRow, run_zeroValue hi hzv]
  · simp only [VR]; exact ⟨_, Inj.add_same _ _ _, rfl⟩

theorem sound_box (elem : TypeId) (x : Operand) : Sound P (.box elem x) := by
  intro ι h h' w tm a v op o r ht ho hres hv
  simp only [resOp] at hres
  split at hres
  · rename_i q hq
    cases hres
    simp only [aop] at hv
    cases hv
    have := rso_VR ht hq
    obtain ⟨ι', hle, hat, hrel, hext⟩ := Good.row r (P := P) elem this.cells false
    refine .of (v' := .pointer (some ⟨w.heap.size, 0, none⟩)) (w' := w.alloc (.cells (a.eval x).cells elem)) ?_ ⟨ι', ?_, hrel, hext⟩
    · simp [execOp, ho, Instr.box, newVar, newRow]
    · simp only [VR]; exact ⟨_, hat, rfl⟩
  · cases hres

/-! ### build, buildSlice -/
theorem foldl_set (vs : List Value) : ∀ (off i : Nat) (c : Array Value), (vs.zipIdx i).foldl (fun (cs : Array Value) (x : Value × Nat) => cs.setIfInBounds (off + x.2) x.1) c =
    (List.foldl (fun (cs : Array Value) (x : Value × Nat) => cs.setIfInBounds (off + i + x.2) x.1) c (vs.zipIdx 0)) := by
  induction vs with
  | nil => intro off i c; rfl
  | cons v vs ih =>
    intro off i c
    simp only [List.zipIdx_cons, List.foldl_cons, Nat.add_zero]
    rw [ih off (i + 1), ih (off + i) (0 + 1)]
    have : off + (i + 1) = off + i + (0 + 1) := by omega
    rw [this]

theorem foldl_splice : ∀ (vs : List Value) (off : Nat) (c : Array Value), off + vs.length ≤ c.size →
    (List.foldl (fun (cs : Array Value) (x : Value × Nat) => cs.setIfInBounds (off + x.2) x.1) c (vs.zipIdx 0)).toList = c.toList.take off ++ vs ++ c.toList.drop (off + vs.length)
  | [], off, c, _ => by simp
  | v :: vs, off, c, h => by
    simp only [List.zipIdx_cons, List.foldl_cons, Nat.add_zero]
    rw [foldl_set vs off (0 + 1), foldl_splice vs (off + (0 + 1)) _ (by simp at h ⊢; omega)]
    simp only [Array.toList_setIfInBounds, List.length_cons]
    have h1 : off < c.toList.length := by simp at h ⊢; omega
    have e1 : (c.toList.set off v).take (off + (0 + 1)) = c.toList.take off ++ [v] := by
      rw [Nat.zero_add, List.take_succ_eq_append_getElem (by simpa using h1)]
      simp [List.take_set_of_le]
    have e2 : (c.toList.set off v).drop (off + (0 + 1) + vs.length) = c.toList.drop (off + (vs.length + 1)) := by
      rw [List.drop_set_of_lt (by omega)]
      congr 1
      omega
    rw [e1, e2]
    simp

theorem VRs.splice {ι : Inj} {l vs m : List AV} {l' vs' : List Value} {o : Nat} (h : VRs ι l l') (k : VRs ι vs vs') (hs : Ev.splice l o vs = some m) :
    VRs ι m (l'.take o ++ vs' ++ l'.drop (o + vs'.length)) ∧ o + vs'.length ≤ l'.length := by
  obtain ⟨e, hl⟩ := splice_spec hs
  have h1 := h.length
  have h2 := k.length
  refine ⟨?_, by omega⟩
  rw [e, h2]
  exact (h.take.append k).append h.drop

theorem fill_sound {place : Nat → Option (Nat × Nat)} (ht : TmR ι tm a.tmps) : ∀ {ps : List (Nat × Operand)} {l : List (Nat × Nat × RO)}, partsOf place ps = some l → ∀ {cs cs' : List AV} {c : Array Value},
    VRs ι cs c.toList → fillP tm cs l = some cs' → ∃ c', Instr.fill place c (ps.map fun x => (x.1, a.eval x.2)) = some c' ∧ VRs ι cs' c'.toList
  | [], l, hp, cs, cs', c, hc, hf => by
    simp only [partsOf] at hp; cases hp
    simp only [fillP] at hf; cases hf
    exact ⟨c, rfl, hc⟩
  | (i, x) :: ps, l, hp, cs, cs', c, hc, hf => by
    simp only [partsOf] at hp
    split at hp
    · rename_i off sz q m hpl hq hm
      cases hp
      simp only [fillP] at hf
      split at hf
      · rename_i hlen
        split at hf
        · rename_i cs1 hs
          have hx := (rso_VR ht hq).cells
          obtain ⟨h1, h2⟩ := hc.splice hx hs
          have hsz : (a.eval x).cells.size = sz := by
            have := hx.length
            have := Nat.eq_of_beq_eq_true hlen
            simp at *
            omega
          have hle : off + (a.eval x).cells.size ≤ c.size := by simpa using h2
          have e := foldl_splice (a.eval x).cells.toList off c (by simpa using hle)
          obtain ⟨c', h3, h4⟩ := fill_sound ht hm (c := List.foldl (fun (cs : Array Value) (x : Value × Nat) => cs.setIfInBounds (off + x.2) x.1) c ((a.eval x).cells.toList.zipIdx 0)) (by rw [e]; exact h1) hf
          refine ⟨c', ?_, h4⟩
          simp only [List.map_cons, Instr.fill, hpl]
          rw [if_neg (by simp [hsz]; omega)]
          rw [← h3]
          congr 1
          rw [← Array.foldl_toList]
          simp
        · cases hf
      · cases hf
    · cases hp

theorem map_parts (f : Operand → Value) (ps : Array (Nat × Operand)) : (ps.map fun (x : Nat × Operand) => (x.1, f x.2)).toList = ps.toList.map fun x => (x.1, f x.2) := by simp

theorem sound_build (t : TypeId) (ps : Array (Nat × Operand)) : Sound P (.build t ps) := by
  intro ι h h' w tm a v op o r ht ho hres hv
  simp only [resOp] at hres
  have hgo : ∀ {place : Nat → Option (Nat × Nat)} {z : List AV} {l : List (Nat × Nat × RO)}, zeroC P t = some z → partsOf place ps.toList = some l → op = .build z l →
      (∀ zv i, P.info? t = some i → i.zero = some zv → ∀ c', Instr.fill place zv.cells (ps.toList.map fun x => (x.1, a.eval x.2)) = some c' → P.built t (ps.toList.map fun x => (x.1, a.eval x.2)) = some c') →
      OpRuns P ι h w v h' ((execOp a.eval o).run P w) := by
    intro place z l hz hl hop hb
    subst hop
    obtain ⟨i, zv, hi, hzv, hvr⟩ := zeroC_spec hz
    simp only [aop] at hv
    cases hf : fillP tm z l with
    | none => rw [hf] at hv; cases hv
    | some cs =>
      rw [hf] at hv; cases hv
      obtain ⟨c', h3, h4⟩ := fill_sound ht hl (hvr ι) hf
      have := run_build w t (ps.map fun (x : Nat × Operand) => (x.1, a.eval x.2)) c' (by rw [map_parts]; exact hb zv i hi hzv c' h3)
      refine .of (v' := .agg c') (w' := w) ?_ (.here r ?_)
      · simp only [execOp, ho, Sem.run_bind, this, Result.andThen_ok, Sem.run_pure]
      · simp only [VR]; exact ⟨c', rfl, h4⟩
  split at hres
  · rename_i fs z hu hz
    split at hres
    · rename_i places hpl
      split at hres
      · rename_i l hl
        cases hres
        refine hgo hz hl rfl ?_
        intro zv i hi hzv c' hf
        unfold Program.built
        simp only [hi, hu, hzv, hpl]
        simpa using hf
      · cases hres
    · cases hres
  · rename_i n e z hu hz
    split at hres
    · rename_i ie hie
      split at hres
      · rename_i l hl
        cases hres
        refine hgo hz hl rfl ?_
        intro zv i hi hzv c' hf
        unfold Program.built
        simp only [hi, hu, hzv, hie]
        exact hf
      · cases hres
    · cases hres
  · cases hres
end
end Go.Ev

namespace Go.Ev
open Go
section
variable {P : Program} {ι : Inj} {h h' : Heap} {w : World} {tm : Env} {a : Act} {v : AV}

theorem range_zero_cells (zc : Array Value) : ∀ (n : Nat), ((List.range (n * zc.size)).map fun i => zc[i % zc.size]!) = (List.replicate n zc.toList).flatten
  | 0 => by simp
  | n + 1 => by
    have e : (n + 1) * zc.size = zc.size + n * zc.size := by rw [Nat.add_mul]; omega
    rw [e, List.range_add, List.map_append, List.map_map, List.replicate_succ, List.flatten_cons, ← range_zero_cells zc n]
    congr 1
    · apply List.ext_getElem?
      intro i
      by_cases hi : i < zc.size
      · simp [hi, Nat.mod_eq_of_lt hi]
      · simp [hi]
    · apply List.map_congr_left
      intro i _
      simp

theorem VRs.rep {z : List AV} {zc : List Value} (hv : VRs ι z zc) : ∀ n, VRs ι (Ev.rep z n) (List.replicate n zc).flatten
  | 0 => by simp [Ev.rep, VRs.nil]
  | n + 1 => by
    simp only [Ev.rep, List.replicate_succ, List.flatten_cons]
    exact hv.append (VRs.rep hv n)

theorem sound_buildSlice (t : TypeId) (len : Nat) (ps : Array (Nat × Operand)) : Sound P (.buildSlice t len ps) := by
  intro ι h h' w tm a v op o r ht ho hres hv
  simp only [resOp] at hres
  split at hres
  · rename_i e hu
    split at hres
    · rename_i i z hi hz
      split at hres
      · rename_i hb
        split at hres
        · rename_i l hl
          cases hres
          rw [Bool.and_eq_true, Nat.ble_eq, Nat.beq_eq] at hb
          obtain ⟨hsm, hzl⟩ := hb
          obtain ⟨i', zv, hi', hzv, hvr⟩ := zeroC_spec hz
          rw [hi] at hi'; cases hi'
          simp only [aop] at hv
          cases hf : fillP tm (rep z len) l with
          | none => rw [hf] at hv; cases hv
          | some cs =>
            rw [hf] at hv; cases hv
            have hsz : zv.cells.size = i.size := by have := (hvr ι).length; simp at this; omega
            have hbase : VRs ι (rep z len) ((List.range (len * i.size)).map fun j => zv.cells[j % zv.cells.size]!) := by
              rw [← hsz, range_zero_cells]; exact (hvr ι).rep len
            -- whether there is a cell at all
            have hrun : ∃ c' : Array Value, VRs ι cs c'.toList ∧ (Instr.buildSlice t len (ps.map fun (x : Nat × Operand) => (x.1, a.eval x.2))).run P w = .ok (.slice (some ⟨w.heap.size, 0, none⟩) len len) (w.alloc (.cells c' e)) := by
              by_cases h0 : len * i.size = 0
              · have hb0 : VRs ι (rep z len) (#[] : Array Value).toList := by
                  rw [h0] at hbase; simpa using hbase
                obtain ⟨c', h3, h4⟩ := fill_sound ht hl hb0 hf
                refine ⟨c', h4, ?_⟩
                have hz0 : (Array.map (fun _ => (default : Value)) (Array.range 0)) = #[] := by simp
                simp [Instr.buildSlice, run_underlying hu, sizeOf, typeInfo, hi, h0, newRow, hz0, h3]
              · obtain ⟨c', h3, h4⟩ := fill_sound ht hl (c := (Array.range (len * i.size)).map (zv.cells[· % zv.cells.size]!)) (by simpa using hbase) hf
                refine ⟨c', h4, ?_⟩
                exact run_buildSlice w t e len _ c' i zv hu hi hzv (by omega) h0 (by rw [map_parts]; exact h3)
            obtain ⟨c', hc', hr'⟩ := hrun
            obtain ⟨ι', hle, hat, hrel, hext⟩ := Good.row r (P := P) e hc' false
            refine .of (v' := .slice (some ⟨w.heap.size, 0, none⟩) len len) (w' := w.alloc (.cells c' e)) ?_ ⟨ι', ?_, hrel, hext⟩
            · simp only [execOp, ho, Sem.run_bind, hr', Result.andThen_ok, Sem.run_pure]
            · simp only [VR]; exact ⟨_, _, hat, rfl, Nat.le_refl _, .inl rfl⟩
        · cases hres
      · cases hres
    · cases hres
  · cases hres

/-! ### Reading -/
theorem getElem?_of_take {α : Type} {l : List α} {n i : Nat} {x : α} (h : (l.take n)[i]? = some x) : l[i]? = some x := by
  rw [List.getElem?_take] at h
  split at h
  · exact h
  · cases h

/-- A block's cells. -/
theorem Rel.cells (r : Rel P ι h w) {b : Nat} {p : Pl} {cs : List AV} (hb : ι b = some p) (hc : h.cells b = some cs) :
    ∃ (c : Array Value) (elem : TypeId) (lo hi : Nat), w.heap[p.blk]? = some (.cells c elem (lo, hi)) ∧ VRs ι cs (c.toList.take cs.length) ∧ cs.length ≤ c.size ∧ c.size = p.n := by
  unfold Heap.cells at hc
  split at hc
  · rename_i cs' g hg
    cases hc
    obtain ⟨c, e, lo, hi, hx, hn, hv, hl, _⟩ := r.blocks b p _ hb hg
    exact ⟨c, e, lo, hi, hx, hv, hl, hn⟩
  · cases hc

theorem VRs.get {l : List AV} {m : List Value} (hv : VRs ι l m) {i : Nat} {x : AV} (hx : l[i]? = some x) : ∃ y, m[i]? = some y ∧ VR ι x y := by
  induction l generalizing m i with
  | nil => simp at hx
  | cons b l ih =>
    obtain ⟨c, m', rfl, hb, hm⟩ := VRs.cons.1 hv
    cases i with
    | zero => simp at hx; subst hx; exact ⟨c, rfl, hb⟩
    | succ i => simpa using ih hm (by simpa using hx)

theorem Addr.add_plain (b o n : Nat) : Addr.add ⟨b, o, none⟩ n = ⟨b, o + n, none⟩ := Addr.add_lit b o n

/-- n cells from o on are read. -/
theorem run_loadCells_at {c : Array Value} {elem : TypeId} {lo hi blk : Nat} (hx : w.heap[blk]? = some (.cells c elem (lo, hi))) (o n : Nat) (hle : o + n ≤ c.size) :
    (loadCells ⟨blk, o, none⟩ n).run P w = .ok ((c.toList.drop o).take n).toArray w := by
  have := run_loadCells_list (P := P) (w := w) ⟨blk, o, none⟩ ((c.toList.drop o).take n) (by
    intro j v hj
    rw [Addr.add_plain]
    have h1 := getElem?_of_take hj
    rw [List.getElem?_drop] at h1
    simp [World.cell?, hx]
    simpa using h1)
  have hlen : ((c.toList.drop o).take n).length = n := by simp; omega
  rw [hlen] at this
  exact this

theorem run_load_at {c : Array Value} {elem : TypeId} {lo hi blk : Nat} (hx : w.heap[blk]? = some (.cells c elem (lo, hi))) (o : Nat) {v : Value} (hv : c.toList[o]? = some v) :
    (load ⟨blk, o, none⟩).run P w = .ok v w := by
  have : w.cell? ⟨blk, o, none⟩ = some v := by simp [World.cell?, hx]; simpa using hv
  simp [run_load, this]

theorem aggN_spec {t : TypeId} {n : Option Nat} (hn : aggN P t = some n) :
    (∃ i k, n = some k ∧ P.info? t = some i ∧ i.size = k ∧ ∀ w, (isAgg t).run P w = .ok true w) ∨ (n = none ∧ ∀ w, (isAgg t).run P w = .ok false w) := by
  unfold aggN szOf at hn
  split at hn
  · rename_i fs hu
    cases hi : P.info? t with
    | none => rw [hi] at hn; simp at hn
    | some i => rw [hi] at hn; simp at hn; exact .inl ⟨i, i.size, hn.symm, rfl, rfl, fun w => by simp [isAgg, run_underlying hu]⟩
  · rename_i n' e hu
    cases hi : P.info? t with
    | none => rw [hi] at hn; simp at hn
    | some i => rw [hi] at hn; simp at hn; exact .inl ⟨i, i.size, hn.symm, rfl, rfl, fun w => by simp [isAgg, run_underlying hu]⟩
  · rename_i d hs ha hu
    cases hn
    refine .inr ⟨rfl, fun w => ?_⟩
    simp only [isAgg, Sem.run_bind, run_underlying hu, Result.andThen_ok]
    rfl
  · cases hn

theorem loadVar_sound (r : Rel P ι h w) {t : TypeId} {n : Option Nat} (hn : aggN P t = some n) {b o : Nat} {p : Pl} (hb : ι b = some p) {cs : List AV} (hc : h.cells b = some cs) {x : AV} (hx : partOf cs o n = some x) :
    ∃ v, (loadVar t ⟨p.blk, o, none⟩).run P w = .ok v w ∧ VR ι x v := by
  obtain ⟨c, e, lo, hi, hw, hv, hl, _⟩ := r.cells hb hc
  rcases aggN_spec hn with ⟨i, k, rfl, hi', hk, hag⟩ | ⟨rfl, hag⟩
  · simp only [partOf] at hx
    split at hx
    · rename_i l hs
      cases hx
      obtain ⟨e1, hle⟩ := sub_spec hs
      refine ⟨.agg ((c.toList.drop o).take k).toArray, ?_, ?_⟩
      · simp [loadVar, hag, run_sizeOf hi', hk, run_loadCells_at hw o k (by omega)]
      · simp only [VR]
        refine ⟨_, rfl, ?_⟩
        rw [e1]
        have := (hv.drop (n := o)).take (n := k)
        simp only [List.drop_take, List.take_take] at this
        rw [Nat.min_eq_left (by omega)] at this
        exact this
    · cases hx
  · simp only [partOf] at hx
    obtain ⟨v, h1, h2⟩ := hv.nth hx
    refine ⟨v, ?_, h2⟩
    simp only [loadVar, Sem.run_bind, hag, Result.andThen_ok]
    exact run_load_at hw o (getElem?_of_take h1)

theorem VR.ptr {b o : Nat} {v : Value} (hv : VR ι (.ptr b o) v) : ∃ p, ι b = some p ∧ v = .pointer (some ⟨p.blk, o, none⟩) := by simpa only [VR] using hv

theorem sound_load (t : TypeId) (x : Operand) : Sound P (.load t x) := by
  intro ι h h' w tm a v op o r ht ho hres hv
  simp only [resOp] at hres
  split at hres
  · rename_i n q hn hq
    cases hres
    simp only [aop] at hv
    have hx := rso_VR ht hq
    split at hv
    · rename_i b off e
      rw [e] at hx
      obtain ⟨p, hp, hpe⟩ := hx.ptr
      cases hc : h.cells b with
      | none => rw [hc] at hv; cases hv
      | some cs =>
        rw [hc] at hv
        simp only [] at hv
        cases hpart : partOf cs off n with
        | none => rw [hpart] at hv; cases hv
        | some y =>
          rw [hpart] at hv; cases hv
          obtain ⟨v', h1, h2⟩ := loadVar_sound r hn hp hc hpart
          refine .of (v' := v') (w' := w) ?_ (.here r h2)
          simp only [execOp, ho, Instr.loadAt, hpe, Instr.sureAddr, Sem.run_bind, Sem.run_pure, Result.andThen_ok, h1]
    · cases hv
  · cases hres

/-! ### Writing -/
theorem Aside.setRow (w : World) (g : Nat) (cs : Array Value) : Aside w (w.setRow g cs) := ⟨rfl, rfl, rfl⟩

theorem run_storeCells_at : ∀ (vs : List Value) (i : Nat) {c : Array Value} {elem : TypeId} {lo hi blk : Nat} {w : World} (o : Nat), w.heap[blk]? = some (.cells c elem (lo, hi)) → (hi ≤ lo ∨ c.size ≤ lo) → o + i + vs.length ≤ c.size →
    (∀ v ∈ vs, v.oneCell' = true) → ∃ w' c', (storeCells ⟨blk, o, none⟩ vs i).run P w = .ok () w' ∧ w'.heap[blk]? = some (.cells c' elem (lo, hi)) ∧ c'.toList = c.toList.take (o + i) ++ vs ++ c.toList.drop (o + i + vs.length) ∧
      (∀ k, k ≠ blk → w'.heap[k]? = w.heap[k]?) ∧ w'.heap.size = w.heap.size ∧ Aside w w'
  | [], i, c, elem, lo, hi, blk, w, o, hx, _, _, _ => by
    refine ⟨w, c, rfl, hx, ?_, fun _ _ => rfl, rfl, .refl w⟩
    simp
  | v :: vs, i, c, elem, lo, hi, blk, w, o, hx, hf, hle, hs => by
    simp only [List.length_cons] at hle
    have hlt : o + i < c.size := by omega
    have hcell : w.cell? ⟨blk, o + i, none⟩ = some c[o + i] := by simp [World.cell?, hx, hlt]
    have hfro : w.frozen? ⟨blk, o + i, none⟩ = false := by simp [World.frozen?, hx]; omega
    have hst : (store ⟨blk, o + i, none⟩ v).run P w = .ok () (w.setRow blk (c.setIfInBounds (o + i) v)) := by
      rw [run_store P w _ v _ (hs v (by simp)), hcell]
      simp [hfro, setCell_eq_setRow w blk (o + i) c elem (lo, hi) v hx]
    obtain ⟨w', c', h1, h2, h3, h4, h5, h6⟩ := run_storeCells_at vs (i + 1) (c := c.setIfInBounds (o + i) v) (w := w.setRow blk (c.setIfInBounds (o + i) v)) o
      (setRow_heap w blk c _ elem (lo, hi) hx) (by simpa using hf) (by simp; omega) (fun x hx => hs x (by simp [hx]))
    refine ⟨w', c', ?_, h2, ?_, ?_, ?_, ?_⟩
    · simp only [storeCells, Addr.add_plain, Sem.run_bind, hst, Result.andThen_ok, h1]
    · rw [h3]
      have hl : o + i < c.toList.length := by simpa using hlt
      simp only [Array.toList_setIfInBounds, List.length_cons]
      have e1 : (c.toList.set (o + i) v).take (o + (i + 1)) = c.toList.take (o + i) ++ [v] := by
        rw [← Nat.add_assoc, List.take_succ_eq_append_getElem (by simpa using hl)]
        simp [List.take_set_of_le]
      have e2 : (c.toList.set (o + i) v).drop (o + (i + 1) + vs.length) = c.toList.drop (o + i + (vs.length + 1)) := by
        rw [List.drop_set_of_lt (by omega)]
        congr 1
        omega
      rw [e1, e2]
      simp
    · intro k hk
      rw [h4 k hk, setRow_other _ _ _ _ hk]
    · rw [h5, setRow_size]
    · exact (Aside.setRow _ _ _).trans h6

theorem VRs.oneCell {l : List AV} {m : List Value} (hv : VRs ι l m) (hs : l.all scalar = true) : ∀ v ∈ m, v.oneCell' = true := by
  induction l generalizing m with
  | nil => rw [VRs.nil.1 hv]; simp
  | cons b l ih =>
    obtain ⟨c, m', rfl, hb, hm⟩ := VRs.cons.1 hv
    simp only [List.all_cons, Bool.and_eq_true] at hs
    intro v hmem
    rcases List.mem_cons.1 hmem with rfl | h2
    · exact hb.oneCell hs.1
    · exact ih hm hs.2 v h2

/-- cells are laid over a block's -/
theorem write_sound (r : Rel P ι h w) {b o : Nat} {p : Pl} (hb : ι b = some p) {vs : List AV} {h' : Heap} (hw : writeCells h b o vs = some h') {m : List Value} (hv : VRs ι vs m) :
    ∃ w', (storeCells ⟨p.blk, o, none⟩ m).run P w = .ok () w' ∧ Rel P ι h' w' ∧ Ext ι h w ι h' w' := by
  unfold writeCells at hw
  split at hw
  · rename_i cs g hg
    split at hw
    · rename_i hs
      split at hw
      · rename_i cs' hsp
        cases hw
        obtain ⟨c, e, lo, hi, hx, hn, hcv, hl, hgr, hf⟩ := r.blocks b p _ hb hg
        obtain ⟨h1, h2⟩ := hcv.splice hv hsp
        have hlen : (c.toList.take cs.length).length = cs.length := by simp; omega
        obtain ⟨w', c', e1, e2, e3, e4, e5, e6⟩ := run_storeCells_at (P := P) m 0 o hx hf (by omega) (hv.oneCell hs)
        have hcs' : cs'.length = cs.length := by
          obtain ⟨e, _⟩ := splice_spec hsp
          have := hv.length
          rw [e]; simp; omega
        have hsz : c'.size = c.size := by
          have := congrArg List.length e3
          simp at this; omega
        have hnew : BR P ι p (.cells cs' g) w'.heap[p.blk]? := by
          refine ⟨c', e, lo, hi, e2, by rw [hsz]; exact hn, ?_, by omega, ?_, by rw [hsz]; exact hf⟩
          · rw [hcs', e3]
            have : List.take cs.length (List.take (o + 0) c.toList ++ m ++ List.drop (o + 0 + m.length) c.toList) =
                List.take o (List.take cs.length c.toList) ++ m ++ List.drop (o + m.length) (List.take cs.length c.toList) := by
              simp only [Nat.add_zero]
              have ho : (List.take o c.toList).length = o := by simp; omega
              rw [List.take_take, Nat.min_eq_left (by omega), List.append_assoc, List.take_append, ho, List.take_take, Nat.min_eq_right (by omega), List.take_append,
                List.append_assoc, List.take_of_length_le (l := m) (by omega), List.drop_take]
              congr 3
              omega
            rw [this]
            exact h1
          · intro hgf
            obtain ⟨ha, hb'⟩ := hgr hgf
            exact ⟨by omega, hb'⟩
        have := r.update hb hg (by intro hd; cases hd) e5 e4 hnew e6
        exact ⟨w', e1, this.1, this.2⟩
      · cases hw
    · cases hw
  · cases hw

theorem szOf_spec {t : TypeId} {n : Nat} (hn : szOf P t = some n) : ∃ i, P.info? t = some i ∧ i.size = n := by
  unfold szOf at hn
  cases hi : P.info? t with
  | none => rw [hi] at hn; simp at hn
  | some i => rw [hi] at hn; simp at hn; exact ⟨i, rfl, hn⟩

theorem sound_store (t : TypeId) (x y : Operand) : Sound P (.store t x y) := by
  intro ι h h' w tm a v op o r ht ho hres hv
  simp only [resOp] at hres
  split at hres
  · rename_i n qx qy hn hx hy
    cases hres
    simp only [aop] at hv
    have ex := rso_VR ht hx
    have ey := rso_VR ht hy
    split at hv
    · rename_i b off e
      rw [e] at ex
      obtain ⟨p, hp, hpe⟩ := ex.ptr
      split at hv
      · rename_i hlen
        cases hw : writeCells h b off (ro tm qy).cells with
        | none => rw [hw] at hv; cases hv
        | some h1 =>
          rw [hw] at hv; cases hv
          obtain ⟨w', e1, e2, e3⟩ := write_sound r hp hw ey.cells
          obtain ⟨i, hi, hsz⟩ := szOf_spec hn
          have hcs : (a.eval y).cells.size = i.size := by
            have := ey.cells.length
            have := Nat.eq_of_beq_eq_true hlen
            simp at *
            omega
          refine ⟨undef, w', .inr ⟨?_, rfl⟩, ι, VR.undef ι, e2, e3⟩
          simp only [execOp, ho, Instr.storeAt, hpe, Instr.sureAddr, storeVar, Sem.run_bind, Sem.run_pure, Result.andThen_ok, run_sizeOf hi]
          rw [if_neg (by simpa using hcs)]
          simp only [Result.andThen_ok, e1]
      · cases hv
    · cases hv
  · cases hres
end
end Go.Ev

namespace Go.Ev
open Go
section
variable {P : Program} {ι : Inj} {h h' : Heap} {w : World} {tm : Env} {a : Act} {v : AV}

theorem sound_nilCheck (x : Operand) : Sound P (.nilCheck x) := by
  intro ι h h' w tm a v op o r ht ho hres hv
  simp only [resOp] at hres
  split at hres
  · rename_i q hq
    cases hres
    simp only [aop] at hv
    have ex := rso_VR ht hq
    have go : ∀ y : Value, a.eval x = y → (match y with | .pointer none | .nilIface | .nilFunc => False | .func (.method _) _ _ => False | _ => True) →
        (execOp a.eval o).run P w = .ok (.value y) w := by
      intro y hy hm
      simp only [execOp, ho, hy]
      cases y with
      | pointer p => cases p with
        | none => exact hm.elim
        | some p => rfl
      | nilIface => exact hm.elim
      | nilFunc => exact hm.elim
      | func f g k => cases f <;> first | exact hm.elim | rfl
      | _ => rfl
    cases hx : ro tm q with
    | nilp => rw [hx] at hv; simp at hv
    | nili => rw [hx] at hv; simp at hv
    | nilf => rw [hx] at hv; simp at hv
    | _ =>
      rw [hx] at hv ex
      simp only [Option.some.injEq, Prod.mk.injEq] at hv
      obtain ⟨rfl, rfl⟩ := hv
      have ex' := ex
      simp only [VR] at ex
      first
        | (rw [go _ ex trivial]; exact .here r (by rw [← ex]; exact ex'))
        | (obtain ⟨_, e, _⟩ := ex; rw [go _ e trivial]; exact .here r (by rw [← e]; exact ex'))
        | (obtain ⟨_, _, e⟩ := ex; rw [go _ e trivial]; exact .here r (by rw [← e]; exact ex'))
        | (obtain ⟨_, _, _, _, e, _⟩ := ex; rw [go _ e trivial]; exact .here r (by rw [← e]; exact ex'))
        | (obtain ⟨_, _, e, _⟩ := ex; rw [go _ e trivial]; exact .here r (by rw [← e]; exact ex'))
        | (obtain ⟨_, _, _, e, _⟩ := ex; rw [go _ e trivial]; exact .here r (by rw [← e]; exact ex'))
  · cases hres

theorem sound_fieldAddr (s : TypeId) (x : Operand) (i : Nat) : Sound P (.fieldAddr s x i) := by
  intro ι h h' w tm a v op o r ht ho hres hv
  simp only [resOp] at hres
  split at hres
  · rename_i fs q hu hq
    split at hres
    · rename_i f hf
      split at hres
      · rename_i n hn
        cases hres
        simp only [aop] at hv
        have ex := rso_VR ht hq
        split at hv
        · rename_i b off e
          cases hv
          rw [e] at ex
          obtain ⟨p, hp, hpe⟩ := ex.ptr
          obtain ⟨it, hi, hsz⟩ := szOf_spec hn
          refine .of (v' := .pointer (some ⟨p.blk, off + f.offset, none⟩)) (w' := w) ?_ (.here r ?_)
          · simp only [execOp, ho, Instr.fieldAt, hpe, Instr.sureAddr, Sem.run_bind, Sem.run_pure, Result.andThen_ok, run_underlying hu, hf, fieldPlace, run_sizeOf hi, hsz]
            rw [if_neg (by omega)]
            simp [Addr.add_plain]
          · simp only [VR]; exact ⟨p, hp, rfl⟩
        · cases hv
      · cases hres
    · cases hres
  · cases hres

theorem part_sound {cs : List AV} {c : Array Value} (hc : VRs ι cs c.toList) {t : TypeId} {n : Option Nat} (hn : aggN P t = some n) {off : Nat} {x : AV} (hx : partOf cs off n = some x) (w : World) :
    ∃ v, (part t c off).run P w = .ok v w ∧ VR ι x v := by
  rcases aggN_spec hn with ⟨i, k, rfl, hi', hk, hag⟩ | ⟨rfl, hag⟩
  · simp only [partOf] at hx
    split at hx
    · rename_i l hs
      cases hx
      obtain ⟨e1, hle⟩ := sub_spec hs
      refine ⟨.agg (c.extract off (off + k)), ?_, ?_⟩
      · simp [part, hag, run_sizeOf hi', hk]
      · simp only [VR]
        refine ⟨_, rfl, ?_⟩
        rw [e1]
        have := (hc.drop (n := off)).take (n := k)
        simpa [List.extract_eq_take_drop] using this
    · cases hx
  · simp only [partOf] at hx
    obtain ⟨v, h1, h2⟩ := hc.nth hx
    refine ⟨v, ?_, h2⟩
    have : c[off]? = some v := by simpa using h1
    simp [part, hag, this]

theorem VR.agg {cs : List AV} {v : Value} (hv : VR ι (.agg cs) v) : ∃ c : Array Value, v = .agg c ∧ VRs ι cs c.toList := by simpa only [VR] using hv
theorem VR.tup {cs : List AV} {v : Value} (hv : VR ι (.tup cs) v) : ∃ c : Array Value, v = .tuple c ∧ VRs ι cs c.toList := by simpa only [VR] using hv
theorem VR.str {l : List Nat} {v : Value} (hv : VR ι (.str l) v) : ∃ s : ByteArray, v = .string s ∧ s.data.toList.map UInt8.toNat = l := by simpa only [VR] using hv

theorem sound_field (s : TypeId) (x : Operand) (i : Nat) : Sound P (.field s x i) := by
  intro ι h h' w tm a v op o r ht ho hres hv
  simp only [resOp] at hres
  split at hres
  · rename_i fs q hu hq
    split at hres
    · rename_i f hf
      split at hres
      · rename_i n hn
        cases hres
        simp only [aop] at hv
        have ex := rso_VR ht hq
        split at hv
        · rename_i cs e
          rw [e] at ex
          obtain ⟨c, hce, hc⟩ := ex.agg
          cases hp : partOf cs f.offset n with
          | none => rw [hp] at hv; cases hv
          | some y =>
            rw [hp] at hv; cases hv
            obtain ⟨v', h1, h2⟩ := part_sound hc hn hp w
            refine .of (v' := v') (w' := w) ?_ (.here r h2)
            simp only [execOp, ho, Instr.field, hce, asAgg, Sem.run_bind, Sem.run_pure, Result.andThen_ok, run_underlying hu, hf, h1]
        · cases hv
      · cases hres
    · cases hres
  · cases hres

theorem asNat_spec {x : AV} {n : Nat} (hx : asNat x = some n) : ∃ k, x = .int k (n : Int) := by
  unfold asNat at hx
  split at hx
  · rename_i k m
    unfold natOf at hx
    split at hx
    · cases hx; exact ⟨k, rfl⟩
    · cases hx
  · cases hx

theorem sound_indexAddr (t : TypeId) (x i : Operand) : Sound P (.indexAddr t x i) := by
  intro ι h h' w tm a v op o r ht ho hres hv
  simp only [resOp] at hres
  split at hres
  · rename_i n e qx qi hu hqx hqi
    split at hres
    · rename_i sz hsz
      cases hres
      simp only [aop] at hv
      have ex := rso_VR ht hqx
      have ei := rso_VR ht hqi
      split at hv
      · rename_i b off j hx hj
        rw [hx] at ex
        obtain ⟨p, hp, hpe⟩ := ex.ptr
        obtain ⟨k, hk⟩ := asNat_spec hj
        rw [hk] at ei
        split at hv
        · rename_i hlt
          cases hv
          have hlt' : j < n := by rw [Nat.blt_eq] at hlt; exact hlt
          obtain ⟨it, hi, hs⟩ := szOf_spec hsz
          refine .of (v' := .pointer (some ⟨p.blk, off + j * sz, none⟩)) (w' := w) ?_ (.here r ?_)
          · simp only [execOp, ho, Instr.indexAt, hpe, ei.int, asIntOf, Instr.sureAddr, Sem.run_bind, Sem.run_pure, Result.andThen_ok, run_underlying hu]
            rw [if_pos (by omega)]
            simp [run_sizeOf hi, hs, Addr.add_plain]
          · simp only [VR]; exact ⟨p, hp, rfl⟩
        · cases hv
      · cases hv
    · cases hres
  · rename_i e qx qi hu hqx hqi
    split at hres
    · rename_i sz hsz
      cases hres
      simp only [aop] at hv
      have ex := rso_VR ht hqx
      have ei := rso_VR ht hqi
      split at hv
      · rename_i j hj
        obtain ⟨k, hk⟩ := asNat_spec hj
        rw [hk] at ei
        obtain ⟨it, hi, hs⟩ := szOf_spec hsz
        split at hv
        · rename_i b off len cap hx
          rw [hx] at ex
          simp only [VR] at ex
          obtain ⟨p, o', hp, hpe, hlc, hoo⟩ := ex
          split at hv
          · rename_i hlt
            cases hv
            have hlt' : j < len := by rw [Nat.blt_eq] at hlt; exact hlt
            have ho' : o' = off := by rcases hoo with h1 | h1 <;> omega
            subst ho'
            refine .of (v' := .pointer (some ⟨p.blk, o' + j * sz, none⟩)) (w' := w) ?_ (.here r ?_)
            · simp only [execOp, ho, Instr.indexAt, hpe, ei.int, asIntOf, Sem.run_bind, Sem.run_pure, Result.andThen_ok, run_underlying hu]
              rw [if_pos (by omega)]
              simp [run_sizeOf hi, hs, Addr.add_plain]
            · simp only [VR]; exact ⟨p, hp, rfl⟩
          · cases hv
        · rename_i b off len sz' hx
          rw [hx] at ex
          simp only [VR] at ex
          obtain ⟨p, o', c, hp, hpe, hlc, hon, hoo⟩ := ex
          split at hv
          · rename_i hlt
            cases hv
            have hlt' : j < len := by rw [Nat.blt_eq] at hlt; exact hlt
            have ho' : o' = off := by rcases hoo with h1 | h1 <;> omega
            subst ho'
            refine .of (v' := .pointer (some ⟨p.blk, o' + j * sz, none⟩)) (w' := w) ?_ (.here r ?_)
            · simp only [execOp, ho, Instr.indexAt, hpe, ei.int, asIntOf, Sem.run_bind, Sem.run_pure, Result.andThen_ok, run_underlying hu]
              rw [if_pos (by omega)]
              simp [run_sizeOf hi, hs, Addr.add_plain]
            · simp only [VR]; exact ⟨p, hp, rfl⟩
          · cases hv
        · cases hv
      · cases hv
    · cases hres
  · cases hres

theorem nth_eq {α : Type} : ∀ (l : List α) (i : Nat), nth l i = l[i]?
  | [], _ => by simp [nth]
  | _ :: _, 0 => by simp [nth]
  | _ :: l, i + 1 => by simp [nth, nth_eq l i]

theorem sound_index (t : TypeId) (x i : Operand) : Sound P (.index t x i) := by
  intro ι h h' w tm a v op o r ht ho hres hv
  simp only [resOp] at hres
  split at hres
  · rename_i n e qx qi hu hqx hqi
    split at hres
    · rename_i sz g hsz hg
      cases hres
      simp only [aop] at hv
      have ex := rso_VR ht hqx
      have ei := rso_VR ht hqi
      split at hv
      · rename_i cs j hx hj
        rw [hx] at ex
        obtain ⟨c, hce, hc⟩ := ex.agg
        obtain ⟨k, hk⟩ := asNat_spec hj
        rw [hk] at ei
        split at hv
        · rename_i hlt
          have hlt' : j < n := by rw [Nat.blt_eq] at hlt; exact hlt
          obtain ⟨it, hi, hs⟩ := szOf_spec hsz
          cases hp : partOf cs (j * sz) g with
          | none => rw [hp] at hv; cases hv
          | some y =>
            rw [hp] at hv; cases hv
            obtain ⟨v', h1, h2⟩ := part_sound hc hg hp w
            refine .of (v' := v') (w' := w) ?_ (.here r h2)
            simp only [execOp, ho, Instr.index, hce, ei.int, asIntOf, Sem.run_bind, Sem.run_pure, Result.andThen_ok, run_underlying hu]
            rw [if_pos (by omega)]
            simp [run_sizeOf hi, hs, h1]
        · cases hv
      · cases hv
    · cases hres
  · rename_i qx qi hu hqx hqi
    cases hres
    simp only [aop] at hv
    have ex := rso_VR ht hqx
    have ei := rso_VR ht hqi
    split at hv
    · rename_i s j hx hj
      rw [hx] at ex
      obtain ⟨bs, hbe, hbl⟩ := ex.str
      obtain ⟨k, hk⟩ := asNat_spec hj
      rw [hk] at ei
      cases hn : nth s j with
      | none => rw [hn] at hv; cases hv
      | some ch =>
        rw [hn] at hv; cases hv
        rw [nth_eq, ← hbl] at hn
        simp only [List.getElem?_map, Option.map_eq_some_iff] at hn
        obtain ⟨y, hy, hyc⟩ := hn
        have hj' : j < bs.size := by
          have := (List.getElem?_eq_some_iff.1 hy).1
          simpa using this
        have hget : bs[j] = y := by
          have := (List.getElem?_eq_some_iff.1 hy).2
          rw [← this]; simp [ByteArray.getElem_eq_getElem_data]
        refine .of (v' := .int .u8 ch) (w' := w) ?_ (.here r (by simp only [VR]))
        simp only [execOp, ho, Instr.index, hbe, ei.int, asIntOf, Sem.run_bind, Sem.run_pure, Result.andThen_ok, run_underlying hu]
        rw [if_pos (by omega)]
        have : bs[(j : Int).toNat]? = some y := by simp [hj', hget]
        rw [this]
        simp [hyc]
    · cases hv
  · cases hres

theorem sound_extract (x : Operand) (i : Nat) : Sound P (.extract x i) := by
  intro ι h h' w tm a v op o r ht ho hres hv
  simp only [resOp] at hres
  split at hres
  · rename_i q hq
    cases hres
    simp only [aop] at hv
    have ex := rso_VR ht hq
    split at hv
    · rename_i vs e
      rw [e] at ex
      obtain ⟨c, hce, hc⟩ := ex.tup
      cases hn : nth vs i with
      | none => rw [hn] at hv; cases hv
      | some y =>
        rw [hn] at hv; cases hv
        obtain ⟨v', h1, h2⟩ := hc.nth hn
        refine .of (v' := v') (w' := w) ?_ (.here r h2)
        have : c[i]? = some v' := by simpa using h1
        simp [execOp, ho, hce, Instr.extract, this]
    · cases hv
  · cases hres

theorem rsos_VR (ht : TmR ι tm a.tmps) : ∀ {l : List Operand} {m : List RO}, allM rso l = some m → VRs ι (m.map (ro tm)) (l.map a.eval)
  | [], m, hm => by rw [allM_nil hm]; exact VRs.nil.2 rfl
  | x :: l, m, hm => by
    obtain ⟨q, m', h1, h2, rfl⟩ := allM_cons hm
    exact VRs.mk (rso_VR ht h1) (rsos_VR ht h2)

theorem sound_makeFunc (f : Fn) (x y : Array Operand) : Sound P (.makeFunc f x y) := by
  intro ι h h' w tm a v op o r ht ho hres hv
  cases f with
  | func f =>
    simp only [resOp] at hres
    split at hres
    · rename_i qx qy hx hy
      cases hres
      simp only [aop] at hv
      cases hv
      refine .of (v' := .func (.func f) (x.map a.eval) (y.map a.eval)) (w' := w) ?_ (.here r ?_)
      · simp [execOp, ho, Instr.makeFunc]
      · simp only [VR]
        exact ⟨_, _, rfl, by simpa using rsos_VR ht hx, by simpa using rsos_VR ht hy⟩
    · cases hres
  | _ => simp [resOp] at hres

theorem sound_makeInterface (t : TypeId) (x : Operand) : Sound P (.makeInterface t x) := by
  intro ι h h' w tm a v op o r ht ho hres hv
  simp only [resOp] at hres
  split at hres
  · cases hres
  · rename_i d q hni hu hq
    cases hres
    simp only [aop] at hv
    cases hv
    have ex := rso_VR ht hq
    refine .of (v' := .iface t (a.eval x)) (w' := w) ?_ (.here r ?_)
    · have : (Instr.makeInterface t (a.eval x)).run P w = .ok (.iface t (a.eval x)) w := by
        simp only [Instr.makeInterface, Sem.run_bind, run_underlying hu, Result.andThen_ok]
        rfl
      simp [execOp, ho, this]
    · simp only [VR]; exact ⟨_, rfl, ex⟩
  · cases hres

theorem sound_makeMap (t : TypeId) (x : Option Operand) : Sound P (.makeMap t x) := by
  intro ι h h' w tm a v op o r ht ho hres hv
  cases x with
  | none =>
    simp only [resOp] at hres
    cases hres
    simp only [aop] at hv
    cases hv
    have := r.alloc (n := 0) (ab := .map [] 0) (o := .map #[] 0) (fun ι' _ => ⟨#[], rfl, rfl⟩)
    refine .of (v' := .map (some w.heap.size)) (w' := w.alloc (.map #[] 0)) ?_ ⟨_, ?_, this.1, this.2⟩
    · simp [execOp, ho, Instr.makeMap]
    · simp only [VR]; exact ⟨_, Inj.add_same _ _ _, rfl⟩
  | some x => simp [resOp] at hres
end
end Go.Ev

namespace Go.Ev
open Go
section
variable {P : Program} {ι : Inj} {h h' : Heap} {w : World} {tm : Env} {a : Act} {v : AV}

theorem toNat_map_inj : ∀ {a b : List UInt8}, a.map UInt8.toNat = b.map UInt8.toNat → a = b
  | [], [], _ => rfl
  | [], _ :: _, e => by simp at e
  | _ :: _, [], e => by simp at e
  | x :: a, y :: b, e => by
    simp only [List.map_cons, List.cons.injEq] at e
    rw [UInt8.toNat_inj.1 e.1, toNat_map_inj e.2]

theorem str_eq {s t : ByteArray} : (s.data.toList.map UInt8.toNat = t.data.toList.map UInt8.toNat) ↔ s = t := by
  constructor
  · intro e
    have := toNat_map_inj e
    cases s; cases t
    simp only at this
    congr
    exact Array.toList_inj.1 this
  · rintro rfl; rfl

theorem toNat_map_beq (a b : List UInt8) : (a == b) = decide (a.map UInt8.toNat = b.map UInt8.toNat) := by
  by_cases e : a = b
  · subst e; simp
  · rw [decide_eq_false (fun x => e (toNat_map_inj x))]
    simpa using e

theorem str_beq (s t : ByteArray) : (s == t) = decide (s.data.toList.map UInt8.toNat = t.data.toList.map UInt8.toNat) := by
  rw [beq_toListBytes, ByteArray.toList_eq, ByteArray.toList_eq]
  exact toNat_map_beq _ _

/-- a block's cells are not strings' bytes -/
theorem liveCells_spec (r : Rel P ι h w) {b : Nat} {p : Pl} (hb : ι b = some p) (hl : liveCells h b = true) :
    ∃ c elem lo hi, w.heap[p.blk]? = some (.cells c elem (lo, hi)) ∧ hi ≤ lo ∧ 0 < c.size ∧ ∃ x, h.get b = some x ∧ x ≠ .dead := by
  unfold liveCells at hl
  split at hl
  · rename_i x xs hg
    obtain ⟨c, e, lo, hi, hx, hn, hv, hle, hgr, hf⟩ := r.blocks b p _ hb hg
    obtain ⟨h1, h2⟩ := hgr rfl
    exact ⟨c, e, lo, hi, hx, h2, by simp at hle; omega, _, hg, by intro x; cases x⟩
  · cases hl

theorem run_noView (w : World) {blk o : Nat} {c : Array Value} {elem : TypeId} {fr : Nat × Nat} (hx : w.heap[blk]? = some (.cells c elem fr)) :
    (noView ⟨blk, o, none⟩).run P w = .ok () w := by
  simp [noView, viewAt, World.shape?, hx]

theorem run_stringish (w : World) {blk o : Nat} {c : Array Value} {elem : TypeId} {lo hi : Nat} (hx : w.heap[blk]? = some (.cells c elem (lo, hi))) (hf : hi ≤ lo) :
    (stringish ⟨blk, o, none⟩).run P w = .ok false w := by
  have h1 : ∀ j, w.frozen? ⟨blk, j, none⟩ = false := by intro j; simp [World.frozen?, hx]; omega
  simp [stringish, h1, World.shape?, hx]

theorem run_sameAddr (r : Rel P ι h w) {b c o q : Nat} {p s : Pl} (hb : ι b = some p) (hc : ι c = some s) (hne : b ≠ c) (h1 : liveCells h b = true) (h2 : liveCells h c = true) :
    (sameAddr ⟨p.blk, o, none⟩ ⟨s.blk, q, none⟩).run P w = .ok false w := by
  obtain ⟨c1, e1, lo1, hi1, hx1, hf1, hn1, y1, hg1, hd1⟩ := liveCells_spec r hb h1
  obtain ⟨c2, e2, lo2, hi2, hx2, hf2, hn2, y2, hg2, hd2⟩ := liveCells_spec r hc h2
  have hblk : p.blk ≠ s.blk := by
    intro e
    rcases r.inj b c p s hb hc e hne _ _ hg1 hg2 with hd | hd
    · exact hd1 hd
    · exact hd2 hd
  have hfr1 : w.frozen? ⟨p.blk, o, none⟩ = false := by simp [World.frozen?, hx1]; omega
  have hnot : (p.blk == s.blk) = false := by simpa using hblk
  simp only [sameAddr, hnot, Bool.false_eq_true, if_false, Sem.run_bind, run_frozen, hfr1, Result.andThen_ok, Sem.run_pure, run_noView w hx1, run_noView w hx2, mayBeOne, run_stringish w hx1 hf1, run_stringish w hx2 hf2,
    run_shape, Bool.false_and, Bool.or_false]

set_option maxHeartbeats 2000000 in
theorem eqd_sound (r : Rel P ι h w) : ∀ (n : Nat) (t : TypeId) (e : EqD), eqdF P n t = some e → ∀ (d : Nat), n ≤ d → ∀ {x y : AV} {x' y' : Value} {b : Bool}, VR ι x x' → VR ι y y' → aeq h e x y = some b →
    (Op.equalIn d t x' y').run P w = .ok b w
  | 0, t, e, he, _, _, _, _, _, _, _, _, _, _ => by simp [eqdF] at he
  | n + 1, t, e, he, d, hd, x, y, x', y', b, hx, hy, hb => by
    obtain ⟨d, rfl⟩ : ∃ m, d = m + 1 := ⟨d - 1, by omega⟩
    have hd' : n ≤ d := by omega
    simp only [eqdF] at he
    split at he
    · rename_i hu
      cases he
      unfold aeq at hb
      split at hb <;> first | contradiction | skip
      · rename_i e1 _ _ a1 b1
        cases hb
        rw [hx.bool, hy.bool]
        exact run_equalIn_bool' w d t _ _ hu
    · rename_i k hu
      cases he
      unfold aeq at hb
      split at hb <;> first | contradiction | skip
      · split at hb
        · rename_i hk
          cases hb
          have := of_decide_eq_true hk
          subst this
          rw [hx.int, hy.int, run_equalIn_int w d t _ _ _ _ hu]
          congr 1
        · cases hb
    · rename_i hu
      cases he
      unfold aeq at hb
      split at hb <;> first | contradiction | skip
      · cases hb
        obtain ⟨s, rfl, hs⟩ := hx.str
        obtain ⟨s', rfl, hs'⟩ := hy.str
        subst hs; subst hs'
        rw [← str_beq]
        simp [Op.equalIn, run_underlying hu]
    · rename_i el hu
      split at he
      · rename_i m hsz
        cases he
        obtain ⟨it, hi, hisz⟩ := szOf_spec hsz
        unfold aeq at hb
        split at hb <;> first | contradiction | skip
        · cases hb; simp only [VR] at hx hy; subst hx; subst hy; simp [Op.equalIn, run_underlying hu]
        · cases hb; simp only [VR] at hx; subst hx; obtain ⟨s, hs, rfl⟩ := hy.ptr; simp [Op.equalIn, run_underlying hu]
        · cases hb; simp only [VR] at hy; subst hy; obtain ⟨s, hs, rfl⟩ := hx.ptr; simp [Op.equalIn, run_underlying hu]
        · rename_i c q c' q' _
          obtain ⟨s, hs, rfl⟩ := hx.ptr
          obtain ⟨s', hs', rfl⟩ := hy.ptr
          have hgo : (Op.equalIn (d + 1) t (.pointer (some ⟨s.blk, q, none⟩)) (.pointer (some ⟨s'.blk, q', none⟩))).run P w = (sameAddr ⟨s.blk, q, none⟩ ⟨s'.blk, q', none⟩).run P w := by
            simp only [Op.equalIn, Sem.run_bind, run_underlying hu, Result.andThen_ok, run_sizeOf hi, hisz]
            rw [if_pos (by omega)]
          rw [hgo]
          split at hb
          · rename_i hcc
            cases hb
            have := Nat.eq_of_beq_eq_true hcc
            subst this
            rw [hs] at hs'; cases hs'
            simp only [sameAddr, beq_self_eq_true, if_true, Sem.run_pure]
            congr 1
            by_cases e : q = q'
            · subst e; simp
            · have : Nat.beq q q' = false := by rw [← Bool.not_eq_true, Nat.beq_eq]; exact e
              rw [this]; simp
          · rename_i hcc
            split at hb
            · rename_i hl
              cases hb
              rw [Bool.and_eq_true] at hl
              exact run_sameAddr r hs hs' (by intro e; subst e; rw [Nat.beq_refl] at hcc; cases hcc) hl.1 hl.2
            · cases hb
      · cases he
    · rename_i ms hu
      cases he
      unfold aeq at hb
      split at hb <;> first | contradiction | skip
      · cases hb; simp only [VR] at hx hy; subst hx; obtain ⟨z, rfl, _⟩ := hy; simp [Op.equalIn, run_underlying hu]
      · cases hb; simp only [VR] at hx hy; subst hy; obtain ⟨z, rfl, _⟩ := hx; simp [Op.equalIn, run_underlying hu]
    · rename_i el hu
      cases he
      unfold aeq at hb
      split at hb <;> first | contradiction | skip
      · cases hb; simp only [VR] at hx hy; subst hx; subst hy; simp [Op.equalIn, run_underlying hu]
      · cases hb; simp only [VR] at hx hy; subst hx; obtain ⟨_, _, _, rfl, _⟩ := hy; simp [Op.equalIn, run_underlying hu]
      · cases hb; simp only [VR] at hx hy; subst hy; obtain ⟨_, _, _, rfl, _⟩ := hx; simp [Op.equalIn, run_underlying hu]
      · cases hb; simp only [VR] at hx hy; subst hx; obtain ⟨_, _, _, _, rfl, _⟩ := hy; simp [Op.equalIn, run_underlying hu]
      · cases hb; simp only [VR] at hx hy; subst hy; obtain ⟨_, _, _, _, rfl, _⟩ := hx; simp [Op.equalIn, run_underlying hu]
    · rename_i k el hu
      cases he
      unfold aeq at hb
      split at hb <;> first | contradiction | skip
      · cases hb; simp only [VR] at hx hy; subst hx; subst hy; simp [Op.equalIn, run_underlying hu]
      · cases hb; simp only [VR] at hx hy; subst hx; obtain ⟨z, _, rfl⟩ := hy; simp [Op.equalIn, run_underlying hu]
      · cases hb; simp only [VR] at hx hy; subst hy; obtain ⟨z, _, rfl⟩ := hx; simp [Op.equalIn, run_underlying hu]
    · rename_i ps rs vd hu
      cases he
      unfold aeq at hb
      split at hb <;> first | contradiction | skip
      · cases hb; simp only [VR] at hx hy; subst hx; subst hy; simp [Op.equalIn, run_underlying hu]
      · cases hb; simp only [VR] at hx hy; subst hx; obtain ⟨_, _, rfl, _⟩ := hy; simp [Op.equalIn, run_underlying hu]
      · cases hb; simp only [VR] at hx hy; subst hy; obtain ⟨_, _, rfl, _⟩ := hx; simp [Op.equalIn, run_underlying hu]
    · rename_i fs hu
      split at he
      · cases he
      · rename_i hst
        split at he
        · rename_i l hl
          cases he
          unfold aeq at hb
          split at hb <;> first | contradiction | skip
          rename_i fs' xs ys hinj
          cases hinj
          obtain ⟨cx, rfl, hcx⟩ := hx.agg
          obtain ⟨cy, rfl, hcy⟩ := hy.agg
          have hfs : P.fieldsOf t = fs := by unfold Program.fieldsOf; rw [hu]
          rw [run_equalIn_struct w d t _ _ (by rw [hfs]; exact hu) hst, hfs]
          have key : ∀ (fl : List Field) (l : List (Nat × Option Nat × EqD)), allM (fun (f : Field) => match aggN P f.type, eqdF P n f.type with
              | some g, some e => some (f.offset, g, e) | _, _ => none) (fl.filter (fun f => f.name != "_")) = some l → ∀ b, aeqs h l xs ys = some b → (Op.eqFields d cx cy fl).run P w = .ok b w := by
            intro fl
            induction fl with
            | nil =>
              intro l hl b hb
              rw [List.filter_nil] at hl
              rw [allM_nil hl] at hb
              simp only [aeqs] at hb; cases hb
              rfl
            | cons f fl ih =>
              intro l hl b hb
              by_cases hname : f.name = "_"
              · have : (f :: fl).filter (fun f => f.name != "_") = fl.filter (fun f => f.name != "_") := by simp [hname]
                rw [this] at hl
                simp only [Op.eqFields]
                rw [if_neg (by simpa using hname)]
                exact ih l hl b hb
              · have : (f :: fl).filter (fun f => f.name != "_") = f :: fl.filter (fun f => f.name != "_") := by simp [hname]
                rw [this] at hl
                obtain ⟨q, l', h1, h2, rfl⟩ := allM_cons hl
                split at h1
                · rename_i g e' hg he'
                  cases h1
                  simp only [aeqs] at hb
                  split at hb
                  · rename_i x y hpx hpy
                    obtain ⟨x', hx1, hx2⟩ := part_sound hcx hg hpx w
                    obtain ⟨y', hy1, hy2⟩ := part_sound hcy hg hpy w
                    simp only [Op.eqFields]
                    rw [if_pos hname]
                    simp only [Sem.run_bind, hx1, hy1, Result.andThen_ok]
                    split at hb
                    · rename_i he1
                      rw [eqd_sound r n f.type e' he' d hd' hx2 hy2 he1]
                      simp only [Result.andThen_ok]
                      exact ih l' h2 b hb
                    · rename_i he1
                      cases hb
                      rw [eqd_sound r n f.type e' he' d hd' hx2 hy2 he1]
                      rfl
                    · cases hb
                  · cases hb
                · cases h1
          exact key fs.toList l hl b hb
        · cases he
    · rename_i len el hu
      split at he
      · rename_i it g e' hi hg he'
        cases he
        unfold aeq at hb
        split at hb <;> first | contradiction | skip
        rename_i fs' xs ys hinj
        cases hinj
        obtain ⟨cx, rfl, hcx⟩ := hx.agg
        obtain ⟨cy, rfl, hcy⟩ := hy.agg
        rw [run_equalIn_array w d _ _ hu hi]
        have hc : P.cellsOf el = it.size := by simp [Program.cellsOf, hi]
        rw [hc]
        have key : ∀ (is : List Nat) (b : Bool), aeqs h (is.map fun j => (j * it.size, g, e')) xs ys = some b → (Op.eqItems d el it.size cx cy is).run P w = .ok b w := by
          intro is
          induction is with
          | nil => intro b hb; simp only [List.map_nil, aeqs] at hb; cases hb; rfl
          | cons j is ih =>
            intro b hb
            simp only [List.map_cons, aeqs] at hb
            split at hb
            · rename_i x y hpx hpy
              obtain ⟨x', hx1, hx2⟩ := part_sound hcx hg hpx w
              obtain ⟨y', hy1, hy2⟩ := part_sound hcy hg hpy w
              simp only [Op.eqItems, Sem.run_bind, hx1, hy1, Result.andThen_ok]
              split at hb
              · rename_i he1
                rw [eqd_sound r n el e' he' d hd' hx2 hy2 he1]
                simp only [Result.andThen_ok]
                exact ih b hb
              · rename_i he1
                cases hb
                rw [eqd_sound r n el e' he' d hd' hx2 hy2 he1]
                rfl
              · cases hb
            · cases hb
        exact key _ b hb
      · cases he
    · cases he
end
end Go.Ev
