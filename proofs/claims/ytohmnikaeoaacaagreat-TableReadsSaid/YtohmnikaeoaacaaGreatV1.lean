/- An abstract evaluator of the program's code, and that it is right: part 1. -/
import Derived.Below
import Derived.Calls
import Derived.IntWalk
import Derived.Laws.Rows
import Derived.Laws.Sem
import Derived.Laws.Slices
import Derived.Laws.Small
import Derived.Laws.StructEq
import Derived.Laws.World
import Derived.Walk
import GoSem.Core.Code
import GoSem.Core.Float
set_option linter.unusedSimpArgs false
set_option linter.unusedVariables false
/- Definitions of an abstract evaluator of Go's loaded code: data by value, local memory by small heaps. Nothing is proved here. -/
namespace Go.Vm

inductive FV where
  | int (k : IntKind) (n : Int)
  | bool (b : Bool)
  | str (s : ByteArray)
  | float (k : FloatKind) (b : Nat)
  | sl (xs : List (List FV))
  | nil | emp | nilPtr | nilIface | nilFunc | nilMap
  | fn (f : Nat)
  deriving Inhabited

inductive AV where
  | d (v : FV)
  | agg (cs : List AV)
  | tup (vs : List AV)
  | row (b g : Nat)
  | bptr (b j : Nat)
  | eptr (b g i j : Nat)
  | win (b g lo n : Nat)
  | fptr (cs : List FV)
  | map (b : Nat)
  | func (f : Nat) (caps : List AV)
  | iface (t : Nat) (v : AV)
  | undef
  deriving Inhabited

inductive Blk where
  | box (ty : Nat) (cs : List AV)
  | row (ty sz : Nat) (el : List (List FV)) (g prot : Nat)
  | rows (ty : Nat) (el : List AV) (g prot : Nat)
  | map (ty : Nat) (es : List (List FV × FV))
  deriving Inhabited

abbrev Heap := List Blk

inductive Arg where
  | t (n : Nat)
  | c (v : FV)

inductive Ini where
  | v (x : FV)
  | row (ty sz : Nat)

inductive AOp where
  | mv (x : Arg)
  | frz (x : Arg)
  | nilRow (ty sz : Nat)
  | pick (c a b : Arg)
  | alloc (ty : Nat) (ini : List Ini)
  | box (ty : Nat) (x : Arg)
  | build (zero : List FV) (parts : List (Nat × Nat × Arg))
  | litF (ty sz n : Nat) (zero : List FV) (parts : List (Nat × Arg))
  | lit (ty sz n : Nat) (zero : List FV) (parts : List (Nat × Arg))
  | lits (ty n : Nat) (parts : List (Nat × Arg))
  | load (n : Nat) (agg : Bool) (a : Arg)
  | store (n : Nat) (a x : Arg)
  | chk (x : Arg)
  | bin (o : BinOp) (x y : Arg)
  | eqA (n : Nat) (neq : Bool) (x y : Arg)
  | eqB (neq : Bool) (x y : Arg)
  | un (o : UnOp) (x : Arg)
  | conv (dst : IntKind) (x : Arg)
  | i2f (dst : FloatKind) (x : Arg)
  | b2s (x : Arg)
  | fbits (x : Arg)
  | fof (x : Arg)
  | iface (t : Nat) (x : Arg)
  | mkf (f : Nat) (caps : List Arg)
  | mkmap (ty : Nat)
  | mksl (ty sz bytes : Nat) (zero : List FV) (n c : Arg)
  | mkrows (ty bytes : Nat) (n c : Arg)
  | fld (off : Nat) (a : Arg)
  | part (off n : Nat) (agg : Bool) (x : Arg)
  | ixa (sz : Nat) (x i : Arg)
  | ixp (sz len : Nat) (x i : Arg)
  | ixs (x i : Arg)
  | ixv (sz len : Nat) (agg : Bool) (x i : Arg)
  | cutS (x : Arg) (lo hi : Option Arg)
  | cut (sz : Nat) (x : Arg) (lo hi : Option Arg)
  | cutD (sz : Nat) (x : Arg) (lo hi : Option Arg)
  | pop (x hi : Arg)
  | look (n : Nat) (zero : FV) (m k : Arg)
  | upd (n : Nat) (m k v : Arg)
  | len (x : Arg)
  | lenS (x : Arg)
  | lenM (x : Arg)
  | lenA (n : Nat)
  | cap0 (x : Arg)
  | app (ty sz bytes : Nat) (s x : Arg)
  | appN (ty bytes : Nat) (s x : Arg)
  | mn (x y : Arg)
  | mx (x y : Arg)
  | call (f : Nat) (az : List Arg)
  | callv (f : Arg) (az : List Arg)
  | ext (t : Arg) (i : Nat)
  | panic (x : Arg)
  | tassert (t : Nat) (agg : Bool) (zero : List FV) (x : Arg)
  | mn3 (x y z : Arg)
  | app0 (ty sz bytes : Nat) (zero : List FV) (s n : Arg)
  | cpy (ty sz : Nat) (d s : Arg)
  | galloc (ty n : Nat)
  | winS (sz : Nat) (x : Arg) (lo hi : Option Arg)
  | clr (ty sz : Nat) (zero : List FV) (x : Arg)
  | gstore (ty n t : Nat) (x : Arg)

structure AO where
  dst : Option Nat
  op : AOp
  guard : Option (Nat × Bool)
  /-- the operations that are done ahead of it in every order, as bits -/
  anc : Nat := 0

inductive ACode where
  | skip
  | region (ops : List AO) (draw : List (Nat × Nat))
  | seq (a b : ACode)
  | cond (c : Arg) (a b : ACode)
  | block (id : Nat) (c : ACode)
  | loop (live : List Nat) (c : ACode)
  | frz (zs : List Nat) (c : ACode)
  | exit (id : Nat)
  | ret

inductive RV where
  | tmp (t : Nat)
  | cell (t n : Nat) (agg : Bool)

structure AFunc where
  np : Nat
  nt : Nat
  code : ACode
  res : List RV
  mv : Bool

inductive Res where
  | ret (v : AV)
  | pan (v : AV)

/-! ### values -/
def FV.norm : FV → FV
  | .nil => .sl []
  | .emp => .sl []
  | x => x
def AV.cells : AV → List AV
  | .agg cs => cs
  | v => [v]
def FV.eqv : FV → FV → Option Bool
  | .int k a, .int k' b => if k = k' then some (a == b) else none
  | _, _ => none
def eqvL : List FV → List FV → Option Bool
  | [], [] => some true
  | a :: az, b :: bs => match a.eqv b with
    | some true => eqvL az bs
    | some false => some false
    | none => none
  | _, _ => none
/-- a value of one cell -/
def one : AV → Bool
  | .agg _ => false
  | .tup _ => false
  | .undef => false
  | _ => true
def toFV : AV → Option FV
  | .d x => some x
  | _ => none
def toFVs : List AV → Option (List FV)
  | [] => some []
  | a :: az => match toFV a, toFVs az with
    | some x, some xs => some (x :: xs)
    | _, _ => none

/-! ### giving away: a row that is handed on is written no more -/
def fzL (f : AV → Heap → Option (FV × Heap)) : List AV → Heap → Option (List FV × Heap)
  | [], H => some ([], H)
  | a :: az, H => match f a H with
    | some (x, H1) => match fzL f az H1 with
      | some (xs, H2) => some (x :: xs, H2)
      | none => none
    | none => none
def fzN : Nat → AV → Heap → Option (FV × Heap)
  | 0, _, _ => none
  | n + 1, v, H => match v with
    | .d x => some (x.norm, H)
    | .row b g => match H[b]? with
      | some (.row ty sz el g' _) => if g = g' then some (.sl el, H.set b (.row ty sz el g' el.length)) else none
      | some (.rows ty el g' _) => if g = g' then match fzL (fzN n) el H with
        | some (xs, H') => some (.sl (xs.map fun x => [x]), H'.set b (.rows ty el g' el.length))
        | none => none else none
      | _ => none
    | _ => none
def fz (v : AV) (H : Heap) : Option (FV × Heap) := fzN 4 v H
def fzs (l : List AV) (H : Heap) : Option (List FV × Heap) := fzL fz l H
mutual
def hand : AV → Heap → Option (AV × Heap)
  | .d x, H => some (.d x.norm, H)
  | .row b g, H => match fz (.row b g) H with
    | some (x, H') => some (.d x, H')
    | none => none
  | .agg cs, H => match hands cs H with
    | some (cs', H') => some (.agg cs', H')
    | none => none
  | .tup cs, H => match hands cs H with
    | some (cs', H') => some (.tup cs', H')
    | none => none
  | v, H => some (v, H)
def hands : List AV → Heap → Option (List AV × Heap)
  | [], H => some ([], H)
  | a :: az, H => match hand a H with
    | some (x, H1) => match hands az H1 with
      | some (xs, H2) => some (x :: xs, H2)
      | none => none
    | none => none
end

/-! ### which blocks a value leads to; a heap laid anew -/
mutual
def ids : AV → List Nat
  | .row b _ => [b]
  | .bptr b _ => [b]
  | .eptr b _ _ _ => [b]
  | .win b _ _ _ => [b]
  | .map b => [b]
  | .agg cs => idsL cs
  | .tup cs => idsL cs
  | .func _ cs => idsL cs
  | .iface _ v => ids v
  | _ => []
def idsL : List AV → List Nat
  | [] => []
  | a :: az => ids a ++ idsL az
end
def inBox (H : Heap) (b : Nat) : List Nat := match H[b]? with
  | some (.box _ cs) => idsL cs
  | some (.rows _ el _ _) => idsL el
  | _ => []
/-- blocks as bits -/
def maskL : List Nat → Nat → Nat
  | [], m => m
  | b :: r, m => maskL r (Nat.lor (Nat.shiftLeft 1 b) m)
def closeM : Heap → Nat → Nat → Nat
  | [], _, m => m
  | k :: r, i, m => closeM r (i + 1) (bif Nat.testBit m i then (match k with
    | .box _ cs => maskL (idsL cs) m
    | .rows _ el _ _ => maskL (idsL el) m
    | _ => m) else m)
def bitsM (m : Nat) : Nat → Heap → List Nat
  | _, [] => []
  | i, _ :: r => bif Nat.testBit m i then i :: bitsM m (i + 1) r else bitsM m (i + 1) r
def reach (H : Heap) (s : List Nat) : List Nat :=
  match s with
  | [] => []
  | _ => bitsM (closeM H 0 (closeM H 0 (closeM H 0 (maskL s 0)))) 0 H
def genOf (H : Heap) (b : Nat) : Option Nat := match H[b]? with
  | some (.row _ _ _ g _) => some g
  | some (.rows _ _ g _) => some g
  | some _ => some 0
  | none => none
/-- an old block: its new number, its count now, its count then -/
abbrev Ren := Nat → Option (Nat × Nat × Nat)
mutual
def ren (ρ : Ren) : AV → AV
  | .row b g => match ρ b with
    | some (b', g0, g1) => if g = g0 then .row b' g1 else .undef
    | none => .undef
  | .eptr b g i j => match ρ b with
    | some (b', g0, g1) => if g = g0 then .eptr b' g1 i j else .undef
    | none => .undef
  | .win b g lo n => match ρ b with
    | some (b', g0, g1) => if g = g0 then .win b' g1 lo n else .undef
    | none => .undef
  | .bptr b j => match ρ b with
    | some (b', g0, _) => if g0 = 0 then .bptr b' j else .undef
    | none => .undef
  | .map b => match ρ b with
    | some (b', g0, _) => if g0 = 0 then .map b' else .undef
    | none => .undef
  | .agg cs => .agg (renL ρ cs)
  | .tup cs => .tup (renL ρ cs)
  | .func f cs => .func f (renL ρ cs)
  | .iface t v => .iface t (ren ρ v)
  | v => v
def renL (ρ : Ren) : List AV → List AV
  | [] => []
  | a :: az => ren ρ a :: renL ρ az
end
def renB (ρ : Ren) (g : Nat) : Blk → Blk
  | .box ty cs => .box ty (renL ρ cs)
  | .row ty sz el _ p => .row ty sz el g p
  | .rows ty el _ p => .rows ty (renL ρ el) g p
  | b => b
/-- the blocks of a list, by their places there; gn: a block's count then -/
def renOf (H : Heap) (L : List Nat) (gn : Nat → Nat → Nat) : Ren := fun b => match L.idxOf? b, genOf H b with
  | some i, some g => some (i, g, gn b g)
  | _, _ => none
def rebOne (H : Heap) (L : List Nat) (gn : Nat → Nat → Nat) (b : Nat) : Option Blk := match H[b]?, genOf H b with
  | some k, some g => some (renB (renOf H L gn) (gn b g) k)
  | _, _ => none
def rebase (H : Heap) (L : List Nat) (gn : Nat → Nat → Nat) : Heap := L.filterMap (rebOne H L gn)
def anew (_ _ : Nat) : Nat := 0
def above (k b g : Nat) : Nat := if b < k then g else 0

/-! ### one operation -/
def Arg.ev (env : List AV) : Arg → AV
  | .t n => env.getD n .undef
  | .c v => .d v
def intOf : AV → Option Int
  | .d (.int _ n) => some n
  | _ => none
def inis : List Ini → Heap → List AV × Heap
  | [], H => ([], H)
  | .v x :: r, H => let (cs, H') := inis r H; (.d x :: cs, H')
  | .row ty sz :: r, H => let (cs, H') := inis r (H ++ [.row ty sz [] 0 0]); (.row H.length 0 :: cs, H')
def putAt {α : Type} (l : List α) (off : Nat) (xs : List α) : List α := l.take off ++ xs ++ l.drop (off + xs.length)
def fill (env : List AV) : List (Nat × Nat × Arg) → List AV → Option (List AV)
  | [], cs => some cs
  | (off, n, a) :: r, cs => match a.ev env with
    | .undef => none
    | v => if v.cells.length = n ∧ off + n ≤ cs.length then fill env r (putAt cs off v.cells) else none
def bitsOf (o : BinOp) (k : IntKind) (x y : Int) : Option Int :=
  let a := BitVec.ofInt k.bits x
  let b := BitVec.ofInt k.bits y
  match o with
  | .and => some (k.wrap (a &&& b).toNat)
  | .or => some (k.wrap (a ||| b).toNat)
  | .xor => some (k.wrap (a ^^^ b).toNat)
  | .andNot => some (k.wrap (a &&& ~~~b).toNat)
  | _ => none
def less : List UInt8 → List UInt8 → Bool
  | _, [] => false
  | [], _ :: _ => true
  | a :: x, b :: y => a < b || (a == b && less x y)
def binF (o : BinOp) (x y : FV) : Option FV :=
  match o, x, y with
  | .shl, .int k a, .int _ b => if b < 0 then none else some (.int k (k.wrap (a * 2 ^ min b.toNat k.bits)))
  | .shr, .int k a, .int _ b => if b < 0 then none else some (.int k (a.fdiv (2 ^ min b.toNat k.bits)))
  | o, .int k a, .int k' b =>
    if k ≠ k' then none else match o with
    | .add => some (.int k (k.wrap (a + b)))
    | .sub => some (.int k (k.wrap (a - b)))
    | .mul => some (.int k (k.wrap (a * b)))
    | .quo => if b = 0 then none else some (.int k (k.wrap (a.tdiv b)))
    | .rem => if b = 0 then none else some (.int k (a.tmod b))
    | .eql => some (.bool (a == b))
    | .neq => some (.bool (a != b))
    | .lss => some (.bool (a < b))
    | .leq => some (.bool (a ≤ b))
    | .gtr => some (.bool (a > b))
    | .geq => some (.bool (a ≥ b))
    | o => (bitsOf o k a b).map (.int k)
  | .quo, .float k a, .float k' b => if k = k' then (k.format.div a b).map (.float k) else none
  | .add, .str a, .str b => if a.size + b.size ≤ 140737488351232 then some (.str (a ++ b)) else none
  | .eql, .str a, .str b => some (.bool (a.toList == b.toList))
  | .neq, .str a, .str b => some (.bool (!(a.toList == b.toList)))
  | _, _, _ => none
def bin (o : BinOp) (x y : AV) : Option AV :=
  match x, y with
  | .d x, .d y => (binF o x y).map .d
  | _, _ => none
def eqA (n : Nat) (neq : Bool) (x y : AV) : Option AV :=
  match x, y with
  | .agg a, .agg b => match toFVs a, toFVs b with
    | some a, some b => if a.length = n then (eqvL a b).map fun r => .d (.bool (if neq then !r else r)) else none
    | _, _ => none
  | _, _ => none
def un (o : UnOp) (x : FV) : Option FV :=
  match o, x with
  | .neg, .int k n => some (.int k (k.wrap (0 - n)))
  | .xor, .int k n => (bitsOf .xor k (if k.signed then -1 else k.max) n).map (.int k)
  | .not, .bool b => some (.bool (!b))
  | _, _ => none
/-- the elements of whatever slice, as they are -/
def elems (v : AV) (H : Heap) : Option (List (List FV)) :=
  match v with
  | .d (.sl xs) => some xs
  | .d .nil => some []
  | .d .emp => some []
  | .row b g => match H[b]? with
    | some (.row _ _ el g' _) => if g = g' then some el else none
    | _ => none
  | .win b g lo n => match H[b]? with
    | some (.row _ _ el g' _) => if g = g' then some ((el.drop lo).take n) else none
    | _ => none
  | _ => none
def nested (v : AV) (H : Heap) : Option (List AV) :=
  match v with
  | .row b g => match H[b]? with
    | some (.rows _ el g' _) => if g = g' then some el else none
    | _ => none
  | _ => none
def lenOf (v : AV) (H : Heap) : Option Nat :=
  match v with
  | .d (.sl xs) => some xs.length
  | .d .nil => some 0
  | .d .emp => some 0
  | .row b g => match H[b]? with
    | some (.row _ _ el g' _) => if g = g' then some el.length else none
    | some (.rows _ el g' _) => if g = g' then some el.length else none
    | _ => none
  | .win b g lo n => match H[b]? with
    | some (.row _ _ el g' _) => if g = g' then some n else none
    | _ => none
  | _ => none
/-- where a slice's elements lie: the block, the first one, how many -/
def dstWin (v : AV) (H : Heap) : Option (Nat × Nat × Nat) := match v with
  | .row b g => match H[b]? with
    | some (.row _ _ el g' _) => if g = g' then some (b, 0, el.length) else none
    | _ => none
  | .win b g lo n => match H[b]? with
    | some (.row _ _ el g' _) => if g = g' then some (b, lo, n) else none
    | _ => none
  | _ => none
/-- a key: one cell, or an aggregate of more -/
def keyAV : AV → Option (List FV)
  | .d x => some [x]
  | .agg cs => if 2 ≤ cs.length then toFVs cs else none
  | _ => none
def eqK (k k' : List FV) : Option Bool := if k.length = k'.length then eqvL k k' else none
def mapFind (k : List FV) : List (List FV × FV) → Option (Option FV)
  | [] => some none
  | (k', v) :: r => match eqK k k' with
    | some true => some (some v)
    | some false => mapFind k r
    | none => none
def mapSet (k : List FV) (v : FV) : List (List FV × FV) → Option (List (List FV × FV))
  | [] => some [(k, v)]
  | (k', v') :: r => match eqK k k' with
    | some true => some ((k, v) :: r)
    | some false => (mapSet k v r).map ((k', v') :: ·)
    | none => none
def bounds (x : Option AV) (dflt : Nat) : Option Nat :=
  match x with
  | none => some dflt
  | some v => match intOf v with
    | some i => if 0 ≤ i then some i.toNat else none
    | none => none
def strOf : List (List FV) → Option (List UInt8)
  | [] => some []
  | [.int .u8 n] :: r => (strOf r).map (UInt8.ofNat n.toNat :: ·)
  | _ => none
/-- is an address one of now? -/
def cur (H : Heap) : AV → Bool
  | .bptr b _ => genOf H b == some 0
  | .eptr b g _ _ => genOf H b == some g
  | .fptr _ => true
  | .func _ _ => true
  | _ => false
def shift (n : Nat) : AV → AV
  | .bptr b j => .bptr b (j + n)
  | .eptr b g i j => .eptr b g i (j + n)
  | .fptr cs => .fptr (cs.drop n)
  | v => v
def isPtr : AV → Bool
  | .bptr _ _ => true
  | .eptr _ _ _ _ => true
  | .fptr _ => true
  | _ => false
def headOK (sz : Nat) : List (List FV) → Bool
  | [] => true
  | c :: _ => c.length == sz
def maxBytes : Nat := 140737488355328

def evOp (o : AOp) (env : List AV) (H : Heap) : Option (AV × Heap) :=
  match o with
  | .mv x => some (x.ev env, H)
  | .frz x => match fz (x.ev env) H with
    | some (y, H') => some (.d y, H')
    | none => none
  | .nilRow ty sz => some (.row H.length 0, H ++ [.row ty sz [] 0 0])
  | .pick c a b => match c.ev env with
    | .d (.bool t) => some (if t then a.ev env else b.ev env, H)
    | _ => none
  | .alloc ty ini => let (cs, H') := inis ini H; some (.bptr H'.length 0, H' ++ [.box ty cs])
  | .box ty x => match x.ev env with
    | .undef => none
    | v => some (.bptr H.length 0, H ++ [.box ty v.cells])
  | .build zero parts => match fill env parts (zero.map .d) with
    | some cs => some (.agg cs, H)
    | none => none
  | .lit ty sz n zero parts => match fill env (parts.map fun (i, a) => (i * sz, sz, a)) ((List.replicate n (zero.map AV.d)).flatten) with
    | some cs => match fzs cs H with
      | some (fs, H') => some (.row H'.length 0, H' ++ [.row ty sz ((List.range n).map fun i => (fs.drop (i * sz)).take sz) 0 0])
      | none => none
    | none => none
  | .litF ty sz n zero parts => match fill env (parts.map fun (i, a) => (i * sz, sz, a)) ((List.replicate n (zero.map AV.d)).flatten) with
    | some cs => match toFVs cs with
      | some fs => some (.d (if n = 0 then .emp else .sl ((List.range n).map fun i => ((fs.map FV.norm).drop (i * sz)).take sz)), H)
      | none => none
    | none => none
  | .lits ty n parts => match fill env (parts.map fun (i, a) => (i, 1, a)) (List.replicate n (.d .nil)) with
    | some cs => some (.row H.length 0, H ++ [.rows ty cs 0 0])
    | none => none
  | .load n agg a => match a.ev env with
    | .bptr b j => match H[b]? with
      | some (.box _ cs) => if j + n ≤ cs.length then some (if agg then .agg ((cs.drop j).take n) else cs.getD j .undef, H) else none
      | _ => none
    | .eptr b g i j => match H[b]? with
      | some (.row _ _ el g' _) => match el[i]? with
        | some cs => if g = g' ∧ j + n ≤ cs.length then some (if agg then .agg (((cs.drop j).take n).map .d) else .d (cs.getD j .nil), H) else none
        | none => none
      | some (.rows _ el g' _) => match el[i]? with
        | some v => if g = g' ∧ j = 0 ∧ n = 1 ∧ agg = false then some (v, H) else none
        | none => none
      | _ => none
    | .fptr cs => if n ≤ cs.length then some (if agg then .agg ((cs.take n).map .d) else .d (cs.getD 0 .nil), H) else none
    | _ => none
  | .store n a x => match a.ev env with
    | .bptr b j => match H[b]? with
      | some (.box ty cs) => if (x.ev env).cells.length = n ∧ j + n ≤ cs.length ∧ (x.ev env).cells.all one = true then some (.undef, H.set b (.box ty (putAt cs j (x.ev env).cells))) else none
      | _ => none
    | .eptr b g i j => match H[b]? with
      | some (.rows ty el g' p) => if g = g' ∧ p ≤ i ∧ i < el.length ∧ n = 1 ∧ j = 0 ∧ (x.ev env).cells.length = 1 ∧ (x.ev env).cells.all one = true then some (.undef, H.set b (.rows ty (el.set i ((x.ev env).cells.getD 0 .undef)) g' p)) else none
      | _ => match fzs (x.ev env).cells H with
      | some (fs, H') => match H'[b]? with
        | some (.row ty sz el g' p) => match el[i]? with
          | some cs => if g = g' ∧ p ≤ i ∧ fs.length = n ∧ j + n ≤ cs.length then some (.undef, H'.set b (.row ty sz (el.set i (putAt cs j fs)) g' p)) else none
          | none => none
        | _ => none
      | none => none
    | _ => none
  | .chk x => if cur H (x.ev env) then some (x.ev env, H) else none
  | .bin o x y => (bin o (x.ev env) (y.ev env)).map (·, H)
  | .eqB q x y => match x.ev env, y.ev env with
    | .d (.bool a), .d (.bool b) => some (.d (.bool (if q then !(a == b) else a == b)), H)
    | _, _ => none
  | .eqA n q x y => (eqA n q (x.ev env) (y.ev env)).map (·, H)
  | .un o x => match x.ev env with
    | .d x => (un o x).map (.d ·, H)
    | _ => none
  | .conv k x => match x.ev env with
    | .d (.int _ n) => some (.d (.int k (k.wrap n)), H)
    | _ => none
  | .i2f k x => match x.ev env with
    | .d (.int _ n) => some (.d (.float k (k.nearest n)), H)
    | _ => none
  | .b2s x => match elems (x.ev env) H with
    | some xs => (strOf xs).map fun l => (.d (.str ⟨l.toArray⟩), H)
    | none => none
  | .fbits x => match x.ev env with
    | .d (.float .f64 b) => some (.d (.int .u64 b), H)
    | _ => none
  | .fof x => match x.ev env with
    | .d (.int .u64 n) => some (.d (.float .f64 n.toNat), H)
    | _ => none
  | .iface t x => some (.iface t (x.ev env), H)
  | .mkf f caps => some (.func f (caps.map (·.ev env)), H)
  | .mkmap ty => some (.map H.length, H ++ [.map ty []])
  | .mksl ty sz bytes zero n c => match intOf (n.ev env), intOf (c.ev env) with
    | some n, some c => if 0 ≤ n ∧ n ≤ c ∧ c * bytes ≤ maxBytes then some (.row H.length 0, H ++ [.row ty sz (List.replicate n.toNat zero) 0 0]) else none
    | _, _ => none
  | .mkrows ty bytes n c => match intOf (n.ev env), intOf (c.ev env) with
    | some n, some c => if 0 ≤ n ∧ n ≤ c ∧ c * bytes ≤ maxBytes then some (.row H.length 0, H ++ [.rows ty (List.replicate n.toNat (.d .nil)) 0 0]) else none
    | _, _ => none
  | .fld off a => if cur H (a.ev env) && isPtr (a.ev env) then some (shift off (a.ev env), H) else none
  | .part off n agg x => match x.ev env with
    | .agg cs => if off + n ≤ cs.length then some (if agg then .agg ((cs.drop off).take n) else cs.getD off .undef, H) else none
    | _ => none
  | .ixa sz x i => match intOf (i.ev env) with
    | some i => match x.ev env with
      | .d (.sl xs) => if 0 ≤ i then match xs[i.toNat]? with
        | some cs => if cs.length = sz then some (.fptr cs, H) else none
        | none => none else none
      | .row b g => match H[b]? with
        | some (.row _ sz' el g' _) => if 0 ≤ i ∧ i < el.length ∧ g = g' ∧ sz = sz' then some (.eptr b g i.toNat 0, H) else none
        | some (.rows _ el g' _) => if 0 ≤ i ∧ i < el.length ∧ g = g' ∧ sz = 1 then some (.eptr b g i.toNat 0, H) else none
        | _ => none
      | .win b g lo n => match H[b]? with
        | some (.row _ sz' el g' _) => if 0 ≤ i ∧ i < n ∧ g = g' ∧ sz = sz' then some (.eptr b g (lo + i.toNat) 0, H) else none
        | _ => none
      | _ => none
    | none => none
  | .ixp sz len x i => match intOf (i.ev env) with
    | some i => if 0 ≤ i ∧ i < len then (if cur H (x.ev env) && isPtr (x.ev env) then some (shift (i.toNat * sz) (x.ev env), H) else none) else none
    | none => none
  | .ixs x i => match intOf (i.ev env), x.ev env with
    | some i, .d (.str s) => if 0 ≤ i then match s[i.toNat]? with
      | some b => some (.d (.int .u8 b.toNat), H)
      | none => none else none
    | _, _ => none
  | .ixv sz len agg x i => match intOf (i.ev env), x.ev env with
    | some i, .agg cs => if 0 ≤ i ∧ i < len ∧ i.toNat * sz + sz ≤ cs.length then some (if agg then .agg ((cs.drop (i.toNat * sz)).take sz) else cs.getD (i.toNat * sz) .undef, H) else none
    | _, _ => none
  | .cutS x lo hi => match x.ev env with
    | .d (.str s) => match bounds (lo.map (·.ev env)) 0, bounds (hi.map (·.ev env)) s.size with
      | some l, some h => if l ≤ h ∧ h ≤ s.size then some (.d (.str (s.extract l h)), H) else none
      | _, _ => none
    | _ => none
  | .cut sz x lo hi => match fz (x.ev env) H with
    | some (.sl xs, H') => match bounds (lo.map (·.ev env)) 0, bounds (hi.map (·.ev env)) xs.length with
      | some l, some h => if l ≤ h ∧ h ≤ xs.length ∧ headOK sz xs = true then some (.d (.sl ((xs.drop l).take (h - l))), H') else none
      | _, _ => none
    | _ => none
  | .cutD sz x lo hi => match (x.ev env) with
    | .d y => match y.norm with
      | .sl xs => match bounds (lo.map (·.ev env)) 0, bounds (hi.map (·.ev env)) xs.length with
        | some l, some h => if l ≤ h ∧ h ≤ xs.length ∧ headOK sz xs = true then some (.d (.sl ((xs.drop l).take (h - l))), H) else none
        | _, _ => none
      | _ => none
    | _ => none
  | .pop x hi => match x.ev env with
    | .row b g => match H[b]?, intOf (hi.ev env) with
      | some (.row ty sz el g' p), some h => if g = g' ∧ 0 ≤ h ∧ h ≤ el.length ∧ (p : Int) ≤ h then some (.row b (g + 1), H.set b (.row ty sz (el.take h.toNat) (g' + 1) p)) else none
      | _, _ => none
    | .d .nil => match intOf (hi.ev env) with
      | some 0 => some (.d .nil, H)
      | _ => none
    | _ => none
  | .look n zero m k => match m.ev env, keyAV (k.ev env) with
    | .map b, some k => if k.length = n then match H[b]? with
      | some (.map _ es) => match mapFind k es with
        | some r => some (.d (r.getD zero), H)
        | none => none
      | _ => none else none
    | _, _ => none
  | .upd n m k v => match m.ev env, keyAV (k.ev env), toFV (v.ev env) with
    | .map b, some k, some v => if k.length = n then match H[b]? with
      | some (.map ty es) => match mapSet k v es with
        | some es' => some (.undef, H.set b (.map ty es'))
        | none => none
      | _ => none else none
    | _, _, _ => none
  | .len x => match lenOf (x.ev env) H with
    | some n => some (.d (.int .i64 n), H)
    | none => none
  | .lenS x => match x.ev env with
    | .d (.str s) => some (.d (.int .i64 s.size), H)
    | _ => none
  | .lenM x => match x.ev env with
    | .map b => match H[b]? with
      | some (.map _ es) => some (.d (.int .i64 es.length), H)
      | _ => none
    | _ => none
  | .lenA n => some (.d (.int .i64 n), H)
  | .cap0 x => match x.ev env with
    | .d .nil => some (.d (.int .i64 0), H)
    | _ => none
  | .app ty sz bytes s x => match elems (x.ev env) H with
    | some xs => if xs.all (fun e => e.length == sz) then match s.ev env with
      | .d .nil => if xs.length * bytes ≤ maxBytes then some (.row H.length 0, H ++ [.row ty sz xs 0 0]) else none
      | .d .emp => if xs.length * bytes ≤ maxBytes then (if xs.isEmpty then some (.d .emp, H) else some (.row H.length 0, H ++ [.row ty sz xs 0 0])) else none
      | .row b g => match H[b]? with
        | some (.row ty' sz' el g' p) => if g = g' ∧ ty = ty' ∧ sz = sz' ∧ (el.length + xs.length) * bytes ≤ maxBytes then some (.row b (g + 1), H.set b (.row ty sz (el ++ xs) (g' + 1) p)) else none
        | _ => none
      | _ => none else none
    | none => none
  | .appN ty bytes s x => match nested (x.ev env) H with
    | some xs => match s.ev env with
      | .d .nil => if xs.length * bytes ≤ maxBytes ∧ xs.all one = true then some (.row H.length 0, H ++ [.rows ty xs 0 0]) else none
      | .row b g => match H[b]? with
        | some (.rows ty' el g' p) => if g = g' ∧ ty = ty' ∧ (el.length + xs.length) * bytes ≤ maxBytes ∧ xs.all one = true then some (.row b (g + 1), H.set b (.rows ty (el ++ xs) (g' + 1) p)) else none
        | _ => none
      | _ => none
    | none => none
  | .mn x y => match x.ev env, y.ev env with
    | .d (.int k a), .d (.int _ b) => some (.d (.int k (if b < a then b else a)), H)
    | _, _ => none
  | .mx x y => match x.ev env, y.ev env with
    | .d (.int k a), .d (.int _ b) => some (.d (.int k (if b > a then b else a)), H)
    | _, _ => none
  | .ext t i => match t.ev env with
    | .tup vs => (vs[i]?).map (·, H)
    | _ => none
  | .tassert t agg zero x => match x.ev env with
    | .iface t' v => some (if t' = t then .tup [v, .d (.bool true)] else .tup [if agg then .agg (zero.map .d) else .d (zero.getD 0 .nil), .d (.bool false)], H)
    | .d .nilIface => some (.tup [if agg then .agg (zero.map .d) else .d (zero.getD 0 .nil), .d (.bool false)], H)
    | _ => none
  | .mn3 x y z => match x.ev env, y.ev env, z.ev env with
    | .d (.int k a), .d (.int _ b), .d (.int _ c) => some (.d (.int k (if c < (if b < a then b else a) then c else if b < a then b else a)), H)
    | _, _, _ => none
  | .app0 ty sz bytes zero s n => match intOf (n.ev env) with
    | some n => if 0 ≤ n ∧ n * bytes ≤ maxBytes then match s.ev env with
      | .d .nil => some (.row H.length 0, H ++ [.row ty sz (List.replicate n.toNat zero) 0 0])
      | _ => none else none
    | none => none
  | .cpy ty sz d s => match dstWin (d.ev env) H, elems (s.ev env) H with
    | some (b, lo, n), some xs => match H[b]? with
      | some (.row ty' sz' el g' p) => if ty = ty' ∧ sz = sz' ∧ p ≤ lo ∧ xs.all (fun e => e.length == sz) = true then some (.d (.int .i64 (min xs.length n : Nat)), H.set b (.row ty sz (putAt el lo (xs.take n)) g' p)) else none
      | _ => none
    | _, _ => none
  | .winS sz x lo hi => match x.ev env with
    | .row b g => match H[b]? with
      | some (.row _ sz' el g' _) => match bounds (lo.map (·.ev env)) 0, bounds (hi.map (·.ev env)) el.length with
        | some l, some h => if g = g' ∧ sz = sz' ∧ l ≤ h ∧ h ≤ el.length then some (.win b g l (h - l), H) else none
        | _, _ => none
      | _ => none
    | _ => none
  | .clr ty sz zero x => match dstWin (x.ev env) H with
    | some (b, lo, n) => match H[b]? with
      | some (.row ty' sz' el g' p) => if ty = ty' ∧ sz = sz' ∧ p ≤ lo ∧ zero.length = sz then some (.tup [], H.set b (.row ty sz (putAt el lo (List.replicate n zero)) g' p)) else none
      | _ => none
    | _ => none
  | .galloc ty n => some (.undef, H)
  | .gstore ty n t x => if (x.ev env).cells.length = n ∧ (x.ev env).cells.all one = true then some (.bptr H.length 0, H ++ [.box ty (x.ev env).cells]) else none
  | .call .. | .callv .. | .panic _ => none

/-! ### calls -/
/-- the oracle: a function's body on a heap of its own -/
abbrev Oracle := Nat → List AV → Heap → Option (Res × Heap)
def Res.map (f : AV → AV) : Res → Res
  | .ret v => .ret (f v)
  | .pan v => .pan (f v)
/-- the callee's blocks, at the caller's places -/
def backOf (H : Heap) (L : List Nat) (K : Heap) : Ren := fun x => match genOf K x with
  | none => none
  | some g => match L[x]? with
    | some b => match genOf H b with
      | some g0 => some (b, g, g0 + g)
      | none => none
    | none => some (H.length + (x - L.length), g, g)
def backHeap (H : Heap) (L : List Nat) (K : Heap) : Heap :=
  (H.zipIdx.map fun (k, b) => match L.idxOf? b with
    | some i => match K[i]?, backOf H L K i with
      | some k', some (_, _, g) => renB (backOf H L K) g k'
      | _, _ => k
    | none => k) ++ (K.drop L.length).map fun k => match k with
      | .row _ _ _ g _ => renB (backOf H L K) g k
      | .rows _ _ g _ => renB (backOf H L K) g k
      | k => renB (backOf H L K) 0 k
/-- what was a row may be one still; what was none has no count -/
def still (H : Heap) (L : List Nat) (K : Heap) : Bool := (List.range L.length).all fun i => match L[i]?, K[i]? with
  | some _, some (.row ..) => true
  | some _, some (.rows ..) => true
  | some b, some _ => genOf H b == some 0
  | _, _ => false
/-- the callee sees what its arguments lead to, and nothing else -/
def callOn (C : Oracle) (raw : Bool) (f : Nat) (args : List AV) (H : Heap) : Option (Res × Heap) :=
  match (if raw then some (args, H) else hands args H) with
  | none => none
  | some (args, H) =>
    let L := reach H (idsL args)
    match C f (renL (renOf H L anew) args) (rebase H L anew) with
    | none => none
    | some (r, K) => if still H L K then some (r.map (ren (backOf H L K)), backHeap H L K) else none

inductive ExitA where
  | normal | exit (id : Nat) | ret | panic (v : AV)

structure Ctx where
  raw : Nat → Bool
  call : Oracle

def evCall (C : Ctx) (f : Nat) (caps args : List AV) (H : Heap) : Option (Res × Heap) := callOn C.call (C.raw f) f (args ++ caps) H
def evAny (C : Ctx) (o : AOp) (env : List AV) (H : Heap) : Option (Res × Heap) :=
  match o with
  | .call f az => evCall C f [] (az.map (·.ev env)) H
  | .callv f az => match f.ev env with
    | .func g caps => evCall C g caps (az.map (·.ev env)) H
    | .d (.fn g) => evCall C g [] (az.map (·.ev env)) H
    | _ => none
  | .panic x => match x.ev env with
    | .iface t v => some (.pan (.iface t v), H)
    | _ => none
  | o => (evOp o env H).map fun (v, H) => (.ret v, H)
def wanted (o : AO) (env : List AV) : Option Bool := match o.guard with
  | none => some true
  | some (t, b) => match env.getD t .undef with
    | .d (.bool c) => some (c == b)
    | .tup [] => some false
    | _ => none
def put (env : List AV) (d : Option Nat) (v : AV) : List AV := match d with
  | some d => env.set d v
  | none => env
def evOps (C : Ctx) : List AO → List AV → Heap → Option (ExitA × List AV × Heap)
  | [], env, H => some (.normal, env, H)
  | o :: r, env, H => match wanted o env with
    | some true => match evAny C o.op env H with
      | some (.ret v, H') => evOps C r (put env o.dst v) H'
      | some (.pan v, H') => some (.panic v, env, H')
      | none => none
    | some false => evOps C r (put env o.dst (.tup [])) H
    | none => none
/-! ### operations whose order is left open -/
def evStep (C : Ctx) (o : AO) (env : List AV) (H : Heap) : Option (List AV × Heap) := match wanted o env with
  | some true => match evAny C o.op env H with
    | some (.ret v, H') => some (put env o.dst v, H')
    | _ => none
  | some false => some (put env o.dst (.tup []), H)
  | none => none
def evTrace (C : Ctx) : List AO → List AV → Heap → Option (List (List AV × Heap))
  | [], env, H => some [(env, H)]
  | o :: r, env, H => match evStep C o env H with
    | some (env', H') => match evTrace C r env' H' with
      | some T => some ((env, H) :: T)
      | none => none
    | none => none
mutual
def sameF : FV → FV → Bool
  | .int k a, .int k' b => k == k' && a == b
  | .bool a, .bool b => a == b
  | .str a, .str b => a.data == b.data
  | .float k a, .float k' b => k == k' && a == b
  | .nil, .nil => true
  | .emp, .emp => true
  | .nilPtr, .nilPtr => true
  | .nilIface, .nilIface => true
  | .nilFunc, .nilFunc => true
  | .nilMap, .nilMap => true
  | .fn a, .fn b => a == b
  | .sl a, .sl b => sameFss a b
  | _, _ => false
def sameFs : List FV → List FV → Bool
  | [], [] => true
  | a :: x, b :: y => sameF a b && sameFs x y
  | _, _ => false
def sameFss : List (List FV) → List (List FV) → Bool
  | [], [] => true
  | a :: x, b :: y => sameFs a b && sameFss x y
  | _, _ => false
end
mutual
def same : AV → AV → Bool
  | .d x, .d y => sameF x y
  | .row b g, .row b' g' => b == b' && g == g'
  | .bptr b j, .bptr b' j' => b == b' && j == j'
  | .eptr b g i j, .eptr b' g' i' j' => b == b' && g == g' && i == i' && j == j'
  | .win b g i j, .win b' g' i' j' => b == b' && g == g' && i == i' && j == j'
  | .fptr a, .fptr b => sameFs a b
  | .map b, .map b' => b == b'
  | .agg a, .agg b => sames a b
  | .tup a, .tup b => sames a b
  | .func f a, .func f' b => f == f' && sames a b
  | .undef, .undef => true
  | _, _ => false
def sames : List AV → List AV → Bool
  | [], [] => true
  | a :: x, b :: y => same a b && sames x y
  | _, _ => false
end
/-- an operation comes to the same in both heaps -/
def sameIn (o : AO) (env : List AV) (H H' : Heap) : Bool := match wanted o env with
  | some true => match evOp o.op env H, evOp o.op env H' with
    | some (v, _), some (v', _) => same v v'
    | _, _ => false
  | _ => true
def pairOK (ops : List AO) (T : List (List AV × Heap)) (p : Nat × Nat) : Bool := match ops[p.1]?, T[p.1]?, T[if p.1 < p.2 then p.2 + 1 else p.2]? with
  | some o, some (env, H), some (_, H') => sameIn o env H H'
  | _, _, _ => false
def evDraw (C : Ctx) (ops : List AO) (draw : List (Nat × Nat)) (env : List AV) (H : Heap) : Option (ExitA × List AV × Heap) := match evTrace C ops env H with
  | some T => if draw.all (pairOK ops T) then match T[ops.length]? with
    | some (env', H') => some (.normal, env', H')
    | none => none else none
  | none => none
def evRegion (C : Ctx) (ops : List AO) : List (Nat × Nat) → List AV → Heap → Option (ExitA × List AV × Heap)
  | [], env, H => evOps C ops env H
  | draw, env, H => evDraw C ops draw env H
def keep : List Nat → Nat → List AV → List AV
  | _, _, [] => []
  | [], i, _ :: r => .undef :: keep [] (i + 1) r
  | l :: ls, i, v :: r => bif Nat.beq l i then v :: keep ls (i + 1) r else .undef :: keep (l :: ls) (i + 1) r
/-- the blocks that were there at the function's begin stay; of the others those that live values lead to -/
def roots (k : Nat) (H : Heap) (s : List Nat) : List Nat := List.range k ++ (reach H (s ++ (List.range k).flatMap (inBox H))).filter (k ≤ ·)
def settle (k : Nat) (live : List Nat) (env : List AV) (H : Heap) : List AV × Heap :=
  let e := keep live 0 env
  let L := roots k H (idsL e)
  (renL (renOf H L (above k)) e, rebase H L (above k))
/-- rows in variables become data -/
def frzs : List Nat → List AV → Heap → Option (List AV × Heap)
  | [], env, H => some (env, H)
  | z :: r, env, H => match fz (env.getD z .undef) H with
    | some (y, H') => frzs r (env.set z (.d y)) H'
    | none => none
/-- code; a loop goes on for so many rounds -/
def evLoop (body : List AV → Heap → Option (ExitA × List AV × Heap)) (k : Nat) (live : List Nat) : Nat → Nat → List AV → Heap → Option (ExitA × List AV × Heap)
  | 0, _, _, _ => none
  | n + 1, m, env, H =>
    bif Nat.ble H.length (Nat.add m 24) then
      match body env H with
      | some (.normal, env', H') => evLoop body k live n m env' H'
      | r => r
    else
      match body (settle k live env H).1 (settle k live env H).2 with
      | some (.normal, env', H') => evLoop body k live n (settle k live env H).2.length env' H'
      | r => r
def evCode (C : Ctx) (n k : Nat) : ACode → List AV → Heap → Option (ExitA × List AV × Heap)
  | .skip, env, H => some (.normal, env, H)
  | .region ops draw, env, H => evRegion C ops draw env H
  | .seq a b, env, H => match evCode C n k a env H with
    | some (.normal, env, H) => evCode C n k b env H
    | r => r
  | .cond c a b, env, H => match c.ev env with
    | .d (.bool true) => evCode C n k a env H
    | .d (.bool false) => evCode C n k b env H
    | _ => none
  | .block id c, env, H => match evCode C n k c env H with
    | some (.exit id', env, H) => if id' = id then some (.normal, env, H) else some (.exit id', env, H)
    | r => r
  | .loop live c, env, H => evLoop (evCode C n k c) k live n k env H
  | .frz zs c, env, H => match frzs zs env H with
    | some (env, H) => evCode C n k c env H
    | none => none
  | .exit id, env, H => some (.exit id, env, H)
  | .ret, env, H => some (.ret, env, H)
def resV (env : List AV) (H : Heap) : RV → Option AV
  | .tmp t => some (env.getD t .undef)
  | .cell t n agg => match env.getD t .undef with
    | .bptr b j => match H[b]? with
      | some (.box _ cs) => if j + n ≤ cs.length then some (if agg then .agg ((cs.drop j).take n) else cs.getD j .undef) else none
      | _ => none
    | _ => none
def resVs (env : List AV) (H : Heap) : List RV → Option (List AV)
  | [] => some []
  | r :: rs => match resV env H r, resVs env H rs with
    | some v, some vs => some (v :: vs)
    | _, _ => none
def leave (mv : Bool) (k : Nat) (isPan : Bool) (v : AV) (H : Heap) : Option (Res × Heap) :=
  match (if mv then some (v, H) else hand v H) with
  | none => none
  | some (v, H) =>
    let L := roots k H (ids v)
    let v' := ren (renOf H L (above k)) v
    some (if isPan then .pan v' else .ret v', rebase H L (above k))
def evBody (C : Ctx) (n : Nat) (F : AFunc) (args : List AV) (H : Heap) : Option (Res × Heap) :=
  match evCode C n H.length F.code (args ++ List.replicate (F.nt - args.length) .undef) H with
  | some (.panic v, _, H') => leave false H.length true v H'
  | some (.exit _, _, _) | none => none
  | some (_, env, H') => match resVs env H' F.res with
    | some [v] => leave F.mv H.length false v H'
    | some vs => leave F.mv H.length false (.tup vs) H'
    | none => none
/-! ### functions that defer one call, of a literal that recovers -/
/-- the literal's code: the result of 'recover' lies in a variable; the operations behind it; the rest -/
structure HFunc where
  nt : Nat
  dst : Nat
  ops : List AO
  rest : ACode
structure DFunc where
  nt : Nat
  pre : List ACode
  lit : AO
  slot : Nat
  h : Nat
  hd : HFunc
  rest : ACode
  res : List (Nat × Nat × Bool)
  mv : Bool
def evPre (C : Ctx) (n k : Nat) : List ACode → List AV → Heap → Option (ExitA × List AV × Heap)
  | [], env, H => some (.normal, env, H)
  | c :: cs, env, H => match evCode C n k c env H with
    | some (.normal, env, H) => evPre C n k cs env H
    | r => r
def evHand (C : Ctx) (n : Nat) (h : HFunc) (caps : List AV) (rv : AV) (H : Heap) : Option Heap :=
  match evOps C h.ops ((caps ++ List.replicate (h.nt - caps.length) AV.undef).set h.dst rv) H with
  | some (.normal, env, H1) => match evCode C n H.length h.rest env H1 with
    | some (.normal, _, H2) => some H2
    | some (.ret, _, H2) => some H2
    | _ => none
  | _ => none
/-- where the results' variables lie -/
def stOf (env : List AV) : List (Nat × Nat × Bool) → Option (List (Nat × Nat))
  | [] => some []
  | (t, _, _) :: r => match env.getD t .undef, stOf env r with
    | .bptr b 0, some l => some ((t, b) :: l)
    | _, _ => none
def resEnv (n : Nat) (l : List (Nat × Nat)) : List AV := l.foldl (fun e p => e.set p.1 (.bptr p.2 0)) (List.replicate n AV.undef)
def finD (D : DFunc) (k : Nat) (l : List (Nat × Nat)) (H : Heap) : Option (Res × Heap) := match resVs (resEnv D.nt l) H (D.res.map fun (t, n, g) => .cell t n g) with
  | some [v] => leave D.mv k false v H
  | some vs => leave D.mv k false (.tup vs) H
  | none => none
/-- the literal's call, and the results behind it -/
def evLast (C : Ctx) (n : Nat) (D : DFunc) (k : Nat) (l : List (Nat × Nat)) (caps : List AV) (rv : AV) (H : Heap) : Option (Res × Heap) := match evHand C n D.hd caps rv H with
  | some H4 => finD D k l H4
  | none => none
def evRest (C : Ctx) (n : Nat) (D : DFunc) (k : Nat) (l : List (Nat × Nat)) (caps : List AV) : Option (ExitA × List AV × Heap) → Option (Res × Heap)
  | some (.normal, _, H3) => evLast C n D k l caps (.d .nilIface) H3
  | some (.ret, _, H3) => evLast C n D k l caps (.d .nilIface) H3
  | some (.panic v, _, H3) => evLast C n D k l caps v H3
  | _ => none
def evTail (C : Ctx) (n : Nat) (D : DFunc) (k : Nat) : ExitA → List AV → Heap → Option (Res × Heap)
  | .normal, env, H1 => match evOp D.lit.op env H1 with
    | some (.func h caps, H2) => match stOf (put env D.lit.dst (.func h caps)) D.res with
      | some l => if h = D.h ∧ D.slot < env.length ∧ l.all (fun p => p.2 < H2.length) = true ∧ (idsL caps).all (fun b => b < H2.length) = true then evRest C n D k l caps (evCode C n H2.length D.rest (put env D.lit.dst (.func h caps)) H2) else none
      | none => none
    | _ => none
  | .ret, env, H1 => match stOf env D.res with
    | some l => finD D k l H1
    | none => none
  | .panic v, _, H1 => leave false k true v H1
  | .exit _, _, _ => none
def evDef (C : Ctx) (n : Nat) (D : DFunc) (args : List AV) (H : Heap) : Option (Res × Heap) :=
  match evPre C n H.length D.pre (args ++ List.replicate (D.nt - args.length) .undef) H with
  | some (e, env, H1) => evTail C n D H.length e env H1
  | none => none
/-- a program: its functions; those that are given; of which functions the arguments are handed on as they are -/
structure Prg where
  fs : Nat → Option AFunc
  ds : Nat → Option DFunc
  given : Nat → Option (List AV → Heap → Option (Res × Heap))
  raw : Nat → Bool
def evFun (P : Prg) : Nat → Nat → List AV → Heap → Option (Res × Heap)
  | 0, _, _, _ => none
  | n + 1, f, args, H => match P.given f with
    | some g => g args H
    | none => match P.fs f with
      | some F => evBody { raw := P.raw, call := evFun P n } n F args H
      | none => match P.ds f with
        | some D => evDef { raw := P.raw, call := evFun P n } n D args H
        | none => none
end Go.Vm
/- The relation between the evaluator's state and the machine's. -/
namespace Go.Vm
open Go

/-- memory that is written no more -/
abbrev Mem := Nat → Nat → Option Value
structure Loc where
  ad : Option Nat
  n : Nat
  cap : Nat
  sz : Nat
  g : Nat
abbrev Place := Nat → Option Loc

inductive FR (M : Mem) : Value → FV → Prop where
  | int (k : IntKind) (n : Int) : FR M (.int k n) (.int k n)
  | bool (b : Bool) : FR M (.bool b) (.bool b)
  | str (s : ByteArray) : FR M (.string s) (.str s)
  | float (k : FloatKind) (b : Nat) : FR M (.float k b) (.float k b)
  | nil : FR M (.slice none 0 0) .nil
  | emp (A : Option Addr) : FR M (.slice A 0 0) .emp
  | nilPtr : FR M (.pointer none) .nilPtr
  | nilIface : FR M .nilIface .nilIface
  | nilFunc : FR M .nilFunc .nilFunc
  | nilMap : FR M (.map none) .nilMap
  | fn (f : Nat) : FR M (.func (.func f) #[] #[]) (.fn f)
  | slE (A : Option Addr) (cap : Nat) : FR M (.slice A 0 cap) (.sl [])
  | sl (b o cap sz : Nat) (u : Nat → Nat → Value) (xs : List (List FV)) (hne : xs ≠ []) (hc : xs.length ≤ cap)
      (hl : ∀ (i : Nat) (cs : List FV), xs[i]? = some cs → cs.length = sz)
      (hM : ∀ (i : Nat) (cs : List FV) (j : Nat) (x : FV), xs[i]? = some cs → cs[j]? = some x → M b (o + i * sz + j) = some (u i j))
      (hR : ∀ (i : Nat) (cs : List FV) (j : Nat) (x : FV), xs[i]? = some cs → cs[j]? = some x → FR M (u i j) x) : FR M (.slice (some ⟨b, o, none⟩) xs.length cap) (.sl xs)

def Loc.val (l : Loc) : Value := .slice (l.ad.map (⟨·, 0, none⟩)) l.n l.cap

inductive VR (M : Mem) (μ : Place) : Value → AV → Prop where
  | d {v : Value} {x : FV} (h : FR M v x) : VR M μ v (.d x)
  | agg (vs : Array Value) (cs : List AV) (hl : vs.size = cs.length) (h : ∀ (i : Nat) (v : Value) (a : AV), vs[i]? = some v → cs[i]? = some a → VR M μ v a) : VR M μ (.agg vs) (.agg cs)
  | tup (vs : Array Value) (cs : List AV) (hl : vs.size = cs.length) (h : ∀ (i : Nat) (v : Value) (a : AV), vs[i]? = some v → cs[i]? = some a → VR M μ v a) : VR M μ (.tuple vs) (.tup cs)
  | row (v : Value) (b g : Nat) (l : Loc) (hl : μ b = some l) (hg : g ≤ l.g) (h1 : ∃ A n c, v = .slice A n c) (h : l.g = g → v = l.val) : VR M μ v (.row b g)
  | bptr (v : Value) (b j : Nat) (l : Loc) (hl : μ b = some l) (h1 : ∃ A, v = .pointer A) (h : l.g = 0 → ∃ B, l.ad = some B ∧ v = .pointer (some ⟨B, j, none⟩)) : VR M μ v (.bptr b j)
  | eptr (v : Value) (b g i j : Nat) (l : Loc) (hl : μ b = some l) (hg : g ≤ l.g) (h1 : ∃ A, v = .pointer A) (h : l.g = g → ∃ B, l.ad = some B ∧ v = .pointer (some ⟨B, i * l.sz + j, none⟩)) : VR M μ v (.eptr b g i j)
  | fptr (b o : Nat) (u : Nat → Value) (cs : List FV) (hM : ∀ (j : Nat) (x : FV), cs[j]? = some x → M b (o + j) = some (u j)) (hR : ∀ (j : Nat) (x : FV), cs[j]? = some x → FR M (u j) x) : VR M μ (.pointer (some ⟨b, o, none⟩)) (.fptr cs)
  | win (v : Value) (b g lo n : Nat) (l : Loc) (hl : μ b = some l) (hg : g ≤ l.g) (h1 : ∃ A m c, v = .slice A m c) (h : l.g = g → lo + n ≤ l.n ∧ v = .slice (if l.cap = lo then l.ad.map (⟨·, 0, none⟩) else l.ad.map (⟨·, lo * l.sz, none⟩)) n (l.cap - lo)) : VR M μ v (.win b g lo n)
  | map (v : Value) (b : Nat) (l : Loc) (hl : μ b = some l) (h1 : ∃ r, v = .map r) (h : l.g = 0 → ∃ B, l.ad = some B ∧ v = .map (some B)) : VR M μ v (.map b)
  | func (f : Nat) (vs : Array Value) (cs : List AV) (hl : vs.size = cs.length) (h : ∀ (i : Nat) (v : Value) (a : AV), vs[i]? = some v → cs[i]? = some a → VR M μ v a) : VR M μ (.func (.func f) #[] vs) (.func f cs)
  | iface (t : Nat) (v : Value) (a : AV) (h : VR M μ v a) : VR M μ (.iface t v) (.iface t a)
  | undef (v : Value) : VR M μ v .undef

def VRs (M : Mem) (μ : Place) (vs : Array Value) (cs : List AV) : Prop := vs.size = cs.length ∧ ∀ (i : Nat) (v : Value) (a : AV), vs[i]? = some v → cs[i]? = some a → VR M μ v a

/-- what is known stays known -/
structure Ext (M : Mem) (μ : Place) (M' : Mem) (μ' : Place) : Prop where
  mem : ∀ b o v, M b o = some v → M' b o = some v
  loc : ∀ b l, μ b = some l → ∃ l', μ' b = some l' ∧ (l' = l ∨ l.g < l'.g)
theorem Ext.refl (M : Mem) (μ : Place) : Ext M μ M μ := ⟨fun _ _ _ h => h, fun _ l h => ⟨l, h, .inl rfl⟩⟩
theorem Ext.trans {M M1 M2 : Mem} {μ μ1 μ2 : Place} (h : Ext M μ M1 μ1) (k : Ext M1 μ1 M2 μ2) : Ext M μ M2 μ2 :=
  ⟨fun b o v e => k.mem _ _ _ (h.mem _ _ _ e), fun b l e => by
    obtain ⟨l1, e1, h1⟩ := h.loc b l e
    obtain ⟨l2, e2, h2⟩ := k.loc b l1 e1
    refine ⟨l2, e2, ?_⟩
    rcases h1 with rfl | h1 <;> rcases h2 with rfl | h2
    · exact .inl rfl
    · exact .inr h2
    · exact .inr h1
    · exact .inr (Nat.lt_trans h1 h2)⟩
theorem FR.ext {M M' : Mem} (hm : ∀ b o v, M b o = some v → M' b o = some v) {v : Value} {x : FV} (h : FR M v x) : FR M' v x := by
  induction h with
  | sl b o cap sz u xs hne hc hl hM hR ih => exact .sl b o cap sz u xs hne hc hl (fun i cs j x h1 h2 => hm _ _ _ (hM i cs j x h1 h2)) ih
  | _ => constructor
theorem VR.ext {M M' : Mem} {μ μ' : Place} (he : Ext M μ M' μ') {v : Value} {a : AV} (h : VR M μ v a) : VR M' μ' v a := by
  induction h with
  | d h => exact .d (h.ext he.mem)
  | agg vs cs hl _ ih => exact .agg vs cs hl ih
  | tup vs cs hl _ ih => exact .tup vs cs hl ih
  | func f vs cs hl _ ih => exact .func f vs cs hl ih
  | iface t v a _ ih => exact .iface t v a ih
  | undef v => exact .undef v
  | fptr b o u cs hM hR => exact .fptr b o u cs (fun j x h => he.mem _ _ _ (hM j x h)) (fun j x h => (hR j x h).ext he.mem)
  | row v b g l hl hg h1 h =>
    obtain ⟨l', e, h'⟩ := he.loc b l hl
    refine .row v b g l' e ?_ h1 ?_
    · rcases h' with rfl | h' <;> omega
    · rcases h' with rfl | h'
      · exact h
      · intro; omega
  | eptr v b g i j l hl hg h1 h =>
    obtain ⟨l', e, h'⟩ := he.loc b l hl
    refine .eptr v b g i j l' e ?_ h1 ?_
    · rcases h' with rfl | h' <;> omega
    · rcases h' with rfl | h'
      · exact h
      · intro; omega
  | win v b g lo n l hl hg h1 h =>
    obtain ⟨l', e, h'⟩ := he.loc b l hl
    refine .win v b g lo n l' e ?_ h1 ?_
    · rcases h' with rfl | h' <;> omega
    · rcases h' with rfl | h'
      · exact h
      · intro; omega
  | bptr v b j l hl h1 h =>
    obtain ⟨l', e, h'⟩ := he.loc b l hl
    refine .bptr v b j l' e h1 ?_
    rcases h' with rfl | h'
    · exact h
    · intro; omega
  | map v b l hl h1 h =>
    obtain ⟨l', e, h'⟩ := he.loc b l hl
    refine .map v b l' e h1 ?_
    rcases h' with rfl | h'
    · exact h
    · intro; omega
theorem VRs.ext {M M' : Mem} {μ μ' : Place} (he : Ext M μ M' μ') {vs : Array Value} {cs : List AV} (h : VRs M μ vs cs) : VRs M' μ' vs cs :=
  ⟨h.1, fun i v a h1 h2 => (h.2 i v a h1 h2).ext he⟩

/-- a map's key: one cell, or an aggregate of more -/
def KeyR (M : Mem) (v : Value) : List FV → Prop
  | [x] => FR M v x
  | k => ∃ us : Array Value, v = .agg us ∧ us.size = k.length ∧ ∀ (i : Nat) (u : Value) (x : FV), us[i]? = some u → k[i]? = some x → FR M u x
theorem KeyR.ext {M M' : Mem} (hm : ∀ b o v, M b o = some v → M' b o = some v) {v : Value} {k : List FV} (h : KeyR M v k) : KeyR M' v k := by
  unfold KeyR at h ⊢
  split at h
  · exact FR.ext hm h
  · obtain ⟨us, h1, h2, h3⟩ := h
    exact ⟨us, h1, h2, fun i u x e1 e2 => (h3 i u x e1 e2).ext hm⟩
/-! ### the state -/
def BlkOK (μ : Place) (M : Mem) (w : World) (b : Nat) : Blk → Prop
  | .box ty cs => ∃ l B vs, μ b = some l ∧ l.g = 0 ∧ l.ad = some B ∧ w.heap[B]? = some (.cells vs ty (0, 0)) ∧ VRs M μ vs cs ∧ ∀ o, M B o = none
  | .row ty sz el g p => ∃ l, μ b = some l ∧ l.g = g ∧ l.n = el.length ∧ l.sz = sz ∧ 0 < sz ∧ p ≤ el.length ∧ l.cap ≤ 9223372036854775807 ∧
      ((l.ad = none ∧ el = [] ∧ l.cap = 0) ∨ ∃ B vs, l.ad = some B ∧ w.heap[B]? = some (.cells vs ty (0, 0)) ∧ l.n ≤ l.cap ∧ vs.size = l.cap * sz ∧
        (∀ (i : Nat) (cs : List FV), el[i]? = some cs → cs.length = sz) ∧ (∀ (i : Nat) (cs : List FV) (j : Nat) (x : FV) (v : Value), el[i]? = some cs → cs[j]? = some x → vs[i * sz + j]? = some v → FR M v x) ∧
        ∀ o, p * sz ≤ o → M B o = none)
  | .rows ty el g p => ∃ l, μ b = some l ∧ l.g = g ∧ l.n = el.length ∧ l.sz = 1 ∧ p ≤ el.length ∧ l.cap ≤ 9223372036854775807 ∧
      ((l.ad = none ∧ el = [] ∧ l.cap = 0) ∨ ∃ B vs, l.ad = some B ∧ w.heap[B]? = some (.cells vs ty (0, 0)) ∧ l.n ≤ l.cap ∧ vs.size = l.cap ∧
        (∀ (i : Nat) (x : AV) (v : Value), el[i]? = some x → vs[i]? = some v → VR M μ v x) ∧ ∀ o, p ≤ o → M B o = none)
  | .map _ es => ∃ l B vs clock, μ b = some l ∧ l.g = 0 ∧ l.ad = some B ∧ w.heap[B]? = some (.map vs clock) ∧ vs.size = es.length ∧
      (∀ (i : Nat) (x : MapEntry) (kx : List FV × FV), vs[i]? = some x → es[i]? = some kx → KeyR M x.key kx.1 ∧ FR M x.val kx.2) ∧ ∀ o, M B o = none

structure Sim (μ : Place) (M : Mem) (w : World) (H : Heap) : Prop where
  mem : ∀ b o v, M b o = some v → w.cell? ⟨b, o, none⟩ = some v
  dom : ∀ b, H.length ≤ b → μ b = none
  blk : ∀ b k, H[b]? = some k → BlkOK μ M w b k
  apart : ∀ b b' l l' B, b < H.length → b' < H.length → b ≠ b' → μ b = some l → μ b' = some l' → l.ad = some B → l'.ad ≠ some B

def owns (μ : Place) (H : Heap) (B : Nat) : Prop := ∃ b l, b < H.length ∧ μ b = some l ∧ l.ad = some B

structure Fr (o : Nat → Prop) (w w' : World) : Prop where
  os : w'.os = w.os
  tape : w'.tape = w.tape
  output : w'.output = w.output
  size : w.heap.size ≤ w'.heap.size
  block : ∀ B, B < w.heap.size → ¬ o B → w'.heap[B]? = w.heap[B]?
/-- from one state to a later one -/
structure Nx (μ : Place) (M : Mem) (w : World) (H : Heap) (μ' : Place) (M' : Mem) (w' : World) (H' : Heap) : Prop where
  ext : Ext M μ M' μ'
  fr : Fr (owns μ H) w w'
  own : ∀ B, owns μ' H' B → owns μ H B ∨ w.heap.size ≤ B
  mem : ∀ b o v, M' b o = some v → M b o = some v ∨ owns μ H b ∨ w.heap.size ≤ b
theorem Nx.refl (μ : Place) (M : Mem) (w : World) (H : Heap) : Nx μ M w H μ M w H :=
  ⟨.refl _ _, ⟨rfl, rfl, rfl, Nat.le_refl _, fun _ _ _ => rfl⟩, fun _ h => .inl h, fun _ _ _ h => .inl h⟩
theorem Nx.trans {μ μ1 μ2 : Place} {M M1 M2 : Mem} {w w1 w2 : World} {H H1 H2 : Heap} (h : Nx μ M w H μ1 M1 w1 H1) (k : Nx μ1 M1 w1 H1 μ2 M2 w2 H2) : Nx μ M w H μ2 M2 w2 H2 where
  ext := h.ext.trans k.ext
  fr := ⟨k.fr.os.trans h.fr.os, k.fr.tape.trans h.fr.tape, k.fr.output.trans h.fr.output, Nat.le_trans h.fr.size k.fr.size, fun B hB hn => by
    rw [← h.fr.block B hB hn]
    refine k.fr.block B (Nat.lt_of_lt_of_le hB h.fr.size) fun ho => ?_
    rcases h.own B ho with h1 | h1
    · exact hn h1
    · omega⟩
  own := fun B hB => by
    rcases k.own B hB with h1 | h1
    · exact h.own B h1
    · exact .inr (Nat.le_trans h.fr.size h1)
  mem := fun b o v e => by
    rcases k.mem b o v e with h1 | h1 | h1
    · exact h.mem b o v h1
    · rcases h.own b h1 with h2 | h2
      · exact .inr (.inl h2)
      · exact .inr (.inr h2)
    · exact .inr (.inr (Nat.le_trans h.fr.size h1))

theorem Ext.mem' {M M' : Mem} {μ μ' : Place} (h : Ext M μ M' μ') {v : Value} {x : FV} (k : FR M v x) : FR M' v x := k.ext h.mem
theorem BlkOK.keep {μ μ' : Place} {M M' : Mem} {w w' : World} {b : Nat} {k : Blk} (h : BlkOK μ M w b k) (he : Ext M μ M' μ') (hμ : μ' b = μ b)
    (hw : ∀ l B, μ b = some l → l.ad = some B → w'.heap[B]? = w.heap[B]? ∧ ∀ o, M B o = none → M' B o = none) : BlkOK μ' M' w' b k := by
  cases k with
  | box ty cs =>
    obtain ⟨l, B, vs, h1, h2, h3, h4, h5, h6⟩ := h
    obtain ⟨k1, k2⟩ := hw l B h1 h3
    exact ⟨l, B, vs, hμ.trans h1, h2, h3, k1.trans h4, h5.ext he, fun o => k2 o (h6 o)⟩
  | row ty sz el g p =>
    obtain ⟨l, h1, h2, h3, h4, h5, h6, h7, h8⟩ := h
    refine ⟨l, hμ.trans h1, h2, h3, h4, h5, h6, h7, ?_⟩
    rcases h8 with h8 | ⟨B, vs, a1, a2, a3, a4, a5, a6, a7⟩
    · exact .inl h8
    · obtain ⟨k1, k2⟩ := hw l B h1 a1
      exact .inr ⟨B, vs, a1, k1.trans a2, a3, a4, a5, fun i cs j x v e1 e2 e3 => (a6 i cs j x v e1 e2 e3).ext he.mem, fun o ho => k2 o (a7 o ho)⟩
  | rows ty el g p =>
    obtain ⟨l, h1, h2, h3, h4, h6, h7, h8⟩ := h
    refine ⟨l, hμ.trans h1, h2, h3, h4, h6, h7, ?_⟩
    rcases h8 with h8 | ⟨B, vs, a1, a2, a3, a4, a6, a7⟩
    · exact .inl h8
    · obtain ⟨k1, k2⟩ := hw l B h1 a1
      exact .inr ⟨B, vs, a1, k1.trans a2, a3, a4, fun i x v e1 e2 => (a6 i x v e1 e2).ext he, fun o ho => k2 o (a7 o ho)⟩
  | map ty es =>
    obtain ⟨l, B, vs, clock, h1, h2, h3, h4, h5, h6, h7⟩ := h
    obtain ⟨k1, k2⟩ := hw l B h1 h3
    exact ⟨l, B, vs, clock, hμ.trans h1, h2, h3, k1.trans h4, h5, fun i x kx e1 e2 => ⟨(h6 i x kx e1 e2).1.ext he.mem, (h6 i x kx e1 e2).2.ext he.mem⟩, fun o => k2 o (h7 o)⟩
theorem BlkOK.loc {μ : Place} {M : Mem} {w : World} {b : Nat} {k : Blk} (h : BlkOK μ M w b k) : ∃ l, μ b = some l ∧ ∀ B, l.ad = some B → B < w.heap.size := by
  have aux : ∀ {B : Nat} {o : Obj}, w.heap[B]? = some o → B < w.heap.size := fun h => (Array.getElem?_eq_some_iff.1 h).1
  cases k with
  | box ty cs => obtain ⟨l, B, vs, h1, h2, h3, h4, h5, h6⟩ := h; exact ⟨l, h1, fun B' hB => by rw [h3] at hB; cases hB; exact aux h4⟩
  | row ty sz el g p =>
    obtain ⟨l, h1, h2, h3, h4, h5, h6, h7, h8⟩ := h
    refine ⟨l, h1, fun B' hB => ?_⟩
    rcases h8 with h8 | ⟨B, vs, a1, a2, _⟩
    · rw [h8.1] at hB; cases hB
    · rw [a1] at hB; cases hB; exact aux a2
  | rows ty el g p =>
    obtain ⟨l, h1, h2, h3, h4, h6, h7, h8⟩ := h
    refine ⟨l, h1, fun B' hB => ?_⟩
    rcases h8 with h8 | ⟨B, vs, a1, a2, _⟩
    · rw [h8.1] at hB; cases hB
    · rw [a1] at hB; cases hB; exact aux a2
  | map ty es => obtain ⟨l, B, vs, clock, h1, h2, h3, h4, h5, h6⟩ := h; exact ⟨l, h1, fun B' hB => by rw [h3] at hB; cases hB; exact aux h4⟩
theorem Sim.lt {μ : Place} {M : Mem} {w : World} {H : Heap} (hs : Sim μ M w H) {b : Nat} {l : Loc} {B : Nat} (hl : μ b = some l) (hB : l.ad = some B) : b < H.length ∧ B < w.heap.size := by
  have hb : b < H.length := by
    rcases Nat.lt_or_ge b H.length with h | h
    · exact h
    · rw [hs.dom b h] at hl; cases hl
  obtain ⟨l', h1, h2⟩ := (hs.blk b H[b] (by simp [hb])).loc
  rw [hl] at h1
  cases h1
  exact ⟨hb, h2 B hB⟩
theorem Sim.memlt {μ : Place} {M : Mem} {w : World} {H : Heap} (hs : Sim μ M w H) {b o : Nat} {v : Value} (h : M b o = some v) : b < w.heap.size := by
  have := hs.mem b o v h
  unfold World.cell? at this
  rcases Nat.lt_or_ge b w.heap.size with k | k
  · exact k
  · simp [Array.getElem?_eq_none k] at this

/-- One block turns, or comes: all others stay. -/
theorem Sim.turn {μ μ' : Place} {M M' : Mem} {w w' : World} {H H' : Heap} (hs : Sim μ M w H) (b : Nat) (he : Ext M μ M' μ')
    (hdom : ∀ x, H'.length ≤ x → μ' x = none) (hmem : ∀ b o v, M' b o = some v → w'.cell? ⟨b, o, none⟩ = some v)
    (hH : ∀ x, x ≠ b → H'[x]? = H[x]?) (hμ : ∀ x, x ≠ b → μ' x = μ x)
    (hb : ∀ k, H'[b]? = some k → BlkOK μ' M' w' b k)
    (hB : ∀ l B, μ' b = some l → l.ad = some B → (∃ l0, μ b = some l0 ∧ l0.ad = some B) ∨ w.heap.size ≤ B)
    (hw : ∀ x l B, x ≠ b → μ x = some l → l.ad = some B → w'.heap[B]? = w.heap[B]? ∧ ∀ o, M B o = none → M' B o = none) : Sim μ' M' w' H' where
  mem := hmem
  dom := hdom
  blk := fun x k hk => by
    by_cases e : x = b
    · subst e; exact hb k hk
    · exact (hs.blk x k (by rw [← hH x e]; exact hk)).keep he (hμ x e) fun l B h1 h2 => hw x l B e h1 h2
  apart := fun x y l l' B hx hy hne h1 h2 h3 h4 => by
    have old : ∀ z lz, z ≠ b → μ' z = some lz → lz.ad = some B → μ z = some lz ∧ z < H.length ∧ B < w.heap.size := fun z lz hz hl hB => by
      rw [hμ z hz] at hl
      exact ⟨hl, hs.lt hl hB⟩
    by_cases ex : x = b
    · have ey : y ≠ b := fun e => hne (ex.trans e.symm)
      obtain ⟨k1, k2, k3⟩ := old y l' ey h2 h4
      rw [ex] at h1
      rcases hB l B h1 h3 with ⟨l0, e0, e1⟩ | h5
      · exact hs.apart b y l0 l' B (hs.lt e0 e1).1 k2 (Ne.symm ey) e0 k1 e1 h4
      · omega
    · obtain ⟨k1, k2, k3⟩ := old x l ex h1 h3
      by_cases ey : y = b
      · rw [ey] at h2
        rcases hB l' B h2 h4 with ⟨l0, e0, e1⟩ | h5
        · exact hs.apart x b l l0 B k2 (hs.lt e0 e1).1 ex k1 e0 h3 e1
        · omega
      · obtain ⟨j1, j2, j3⟩ := old y l' ey h2 h4
        exact hs.apart x y l l' B k2 j2 hne k1 j1 h3 h4
end Go.Vm
/- A row that is handed on is written no more: the relation holds on. -/
namespace Go.Vm
open Go
theorem Sim.turnNx {μ μ' : Place} {M M' : Mem} {w w' : World} {H H' : Heap} (hs : Sim μ M w H) (b : Nat) (he : Ext M μ M' μ')
    (hμ : ∀ x, x ≠ b → μ' x = μ x)
    (hB : ∀ l B, μ' b = some l → l.ad = some B → (∃ l0, μ b = some l0 ∧ l0.ad = some B) ∨ w.heap.size ≤ B)
    (hos : w'.os = w.os) (ht : w'.tape = w.tape) (ho : w'.output = w.output) (hsz : w.heap.size ≤ w'.heap.size)
    (hbl : ∀ B, B < w.heap.size → (∀ l, μ b = some l → l.ad ≠ some B) → w'.heap[B]? = w.heap[B]?)
    (hM : ∀ c o v, M' c o = some v → M c o = some v ∨ (∃ l, μ b = some l ∧ l.ad = some c) ∨ w.heap.size ≤ c) : Nx μ M w H μ' M' w' H' where
  ext := he
  fr := ⟨hos, ht, ho, hsz, fun B h1 h2 => hbl B h1 fun l e1 e2 => h2 ⟨b, l, (hs.lt e1 e2).1, e1, e2⟩⟩
  own := fun B ⟨x, l, hx, h1, h2⟩ => by
    by_cases e : x = b
    · subst e
      rcases hB l B h1 h2 with ⟨l0, k1, k2⟩ | h
      · exact .inl ⟨x, l0, (hs.lt k1 k2).1, k1, k2⟩
      · exact .inr h
    · rw [hμ x e] at h1
      exact .inl ⟨x, l, (hs.lt h1 h2).1, h1, h2⟩
  mem := fun c o v h => by
    rcases hM c o v h with h | ⟨l, h1, h2⟩ | h
    · exact .inl h
    · exact .inr (.inl ⟨b, l, (hs.lt h1 h2).1, h1, h2⟩)
    · exact .inr (.inr h)

theorem getElem?_set_ne' {α : Type} (l : List α) (b x : Nat) (k : α) (h : x ≠ b) : (l.set b k)[x]? = l[x]? := List.getElem?_set_ne (Ne.symm h)

/-- memory with the first cells of a block laid fast -/
def fast (M : Mem) (B : Nat) (vs : Array Value) (n : Nat) : Mem := fun b o => if b = B ∧ o < n then vs[o]? else M b o
theorem VR.d_inv {M : Mem} {μ : Place} {v : Value} {x : FV} (h : VR M μ v (.d x)) : FR M v x := by cases h; assumption
theorem FR.norm {M : Mem} {v : Value} {x : FV} (h : FR M v x) : FR M v x.norm := by
  cases x <;> first
    | exact h
    | (cases h; exact .slE _ _)
theorem mul_lt {i sz j n : Nat} (hi : i < n) (hj : j < sz) : i * sz + j < n * sz := by
  calc i * sz + j < i * sz + sz := by omega
    _ = (i + 1) * sz := by rw [Nat.add_mul, Nat.one_mul]
    _ ≤ n * sz := Nat.mul_le_mul_right _ hi

/-- Protecting a plain row. -/
theorem fz_row {μ : Place} {M : Mem} {w : World} {H : Heap} (hs : Sim μ M w H) {b ty sz g p : Nat} {el : List (List FV)} (hb : H[b]? = some (.row ty sz el g p)) {v : Value} (hv : VR M μ v (.row b g)) :
    ∃ M', FR M' v (.sl el) ∧ Sim μ M' w (H.set b (.row ty sz el g el.length)) ∧ Nx μ M w H μ M' w (H.set b (.row ty sz el g el.length)) := by
  have hlt : b < H.length := (List.getElem?_eq_some_iff.1 hb).1
  obtain ⟨l, h1, h2, h3, h4, h5, h6, h7, h8⟩ := hs.blk b _ hb
  obtain ⟨_, _, l', k1, k2, _, k3⟩ : ∃ (_ : Unit) (_ : Unit) (l' : Loc), μ b = some l' ∧ g ≤ l'.g ∧ True ∧ (l'.g = g → v = l'.val) := by
    cases hv with
    | row v b g l' a1 a2 a3 a4 => exact ⟨(), (), l', a1, a2, trivial, a4⟩
  rw [h1] at k1
  cases k1
  have hval := k3 h2
  subst hval
  rcases h8 with ⟨a1, a2, a3⟩ | ⟨B, vs, a1, a2, a3, a4, a5, a6, a7⟩
  · subst a2
    refine ⟨M, ?_, ?_, ?_⟩
    · have : l.val = .slice none 0 l.cap := by simp [Loc.val, a1, h3]
      rw [this]; exact .slE _ _
    · refine hs.turn b (.refl _ _) (fun x hx => hs.dom x (by simpa using hx)) hs.mem (fun x hx => getElem?_set_ne' _ _ _ _ hx) (fun _ _ => rfl) (fun k hk => ?_) (fun l0 B e1 e2 => .inl ⟨l0, e1, e2⟩) (fun x l0 B _ _ _ => ⟨rfl, fun _ h => h⟩)
      rw [List.getElem?_set_self hlt] at hk
      cases hk
      exact ⟨l, h1, h2, h3, h4, h5, Nat.le_refl _, h7, .inl ⟨a1, rfl, a3⟩⟩
    · exact hs.turnNx b (.refl _ _) (fun _ _ => rfl) (fun l0 B e1 e2 => .inl ⟨l0, e1, e2⟩) rfl rfl rfl (Nat.le_refl _) (fun _ _ _ => rfl) (fun _ _ _ h => .inl h)
  · have hsz : el.length * sz ≤ vs.size := by rw [a4, ← h3]; exact Nat.mul_le_mul_right _ a3
    have cell : ∀ o, w.cell? ⟨B, o, none⟩ = vs[o]? := fun o => by simp [World.cell?, a2]
    have hext : Ext M μ (fast M B vs (el.length * sz)) μ := ⟨fun c o u hu => by
      unfold fast
      split
      · rename_i h
        obtain ⟨rfl, h⟩ := h
        rw [← cell]; exact hs.mem _ _ _ hu
      · exact hu, (Ext.refl M μ).loc⟩
    have hmem : ∀ c o u, fast M B vs (el.length * sz) c o = some u → w.cell? ⟨c, o, none⟩ = some u := fun c o u hu => by
      unfold fast at hu
      split at hu
      · rename_i h
        obtain ⟨rfl, h⟩ := h
        rw [cell]; exact hu
      · exact hs.mem _ _ _ hu
    have hat : ∀ i cs j x, el[i]? = some cs → cs[j]? = some x → i * sz + j < el.length * sz ∧ ∃ u, vs[i * sz + j]? = some u := fun i cs j x e1 e2 => by
      have hi := (List.getElem?_eq_some_iff.1 e1).1
      have hj := (List.getElem?_eq_some_iff.1 e2).1
      rw [a5 i cs e1] at hj
      have := mul_lt hi hj
      exact ⟨this, vs[i * sz + j]'(by omega), by simp [show i * sz + j < vs.size by omega]⟩
    refine ⟨fast M B vs (el.length * sz), ?_, ?_, ?_⟩
    · by_cases hne : el = []
      · subst hne
        have : l.val = .slice (some ⟨B, 0, none⟩) 0 l.cap := by simp [Loc.val, a1, h3]
        rw [this]; exact .slE _ _
      · have : l.val = .slice (some ⟨B, 0, none⟩) el.length l.cap := by simp [Loc.val, a1, h3]
        rw [this]
        refine .sl B 0 l.cap sz (fun i j => (vs[i * sz + j]?).getD undef) el hne (by omega) a5 (fun i cs j x e1 e2 => ?_) (fun i cs j x e1 e2 => ?_)
        · obtain ⟨q1, u, q2⟩ := hat i cs j x e1 e2
          simp [fast, q1, q2]
        · obtain ⟨q1, u, q2⟩ := hat i cs j x e1 e2
          simp only [q2, Option.getD_some]
          exact (a6 i cs j x u e1 e2 q2).ext hext.mem
    · refine hs.turn b hext (fun x hx => hs.dom x (by simpa using hx)) hmem (fun x hx => getElem?_set_ne' _ _ _ _ hx) (fun _ _ => rfl) (fun k hk => ?_) (fun l0 B e1 e2 => .inl ⟨l0, e1, e2⟩) (fun x l0 B0 hx e1 e2 => ⟨rfl, fun o h => ?_⟩)
      · rw [List.getElem?_set_self hlt] at hk
        cases hk
        refine ⟨l, h1, h2, h3, h4, h5, Nat.le_refl _, h7, .inr ⟨B, vs, a1, a2, a3, a4, a5, fun i cs j x u e1 e2 e3 => (a6 i cs j x u e1 e2 e3).ext hext.mem, fun o ho => ?_⟩⟩
        unfold fast
        rw [if_neg (by omega)]
        exact a7 o (Nat.le_trans (Nat.mul_le_mul_right _ h6) ho)
      · unfold fast
        rw [if_neg]
        · exact h
        · rintro ⟨rfl, _⟩
          exact hs.apart x b l0 l B0 (hs.lt e1 e2).1 hlt hx e1 h1 e2 a1
    · refine hs.turnNx b hext (fun _ _ => rfl) (fun l0 B e1 e2 => .inl ⟨l0, e1, e2⟩) rfl rfl rfl (Nat.le_refl _) (fun _ _ _ => rfl) (fun c o u h => ?_)
      unfold fast at h
      split at h
      · rename_i h'
        exact .inr (.inl ⟨l, h1, by rw [a1, h'.1]⟩)
      · exact .inl h

def pv : Blk → Blk
  | .row ty sz el g _ => .row ty sz el g 0
  | .rows ty el g _ => .rows ty el g 0
  | b => b
theorem pv_rows {H H' : Heap} (h : H'.map pv = H.map pv) {b ty g p : Nat} {el : List AV} (hb : H[b]? = some (.rows ty el g p)) : ∃ p', H'[b]? = some (.rows ty el g p') := by
  have e : (H'.map pv)[b]? = (H.map pv)[b]? := by rw [h]
  rw [List.getElem?_map, List.getElem?_map, hb] at e
  cases hk : H'[b]? with
  | none => rw [hk] at e; cases e
  | some k =>
    rw [hk] at e
    cases k <;> simp [pv] at e
    obtain ⟨rfl, rfl, rfl⟩ := e
    exact ⟨_, rfl⟩
theorem pv_set {H : Heap} {b : Nat} {k k' : Blk} (hb : H[b]? = some k) (he : pv k' = pv k) : (H.set b k').map pv = H.map pv := by
  apply List.ext_getElem?
  intro i
  rw [List.getElem?_map, List.getElem?_map]
  by_cases h : i = b
  · subst h
    have hlt := (List.getElem?_eq_some_iff.1 hb).1
    rw [List.getElem?_set_self hlt, hb]
    simp [he]
  · rw [List.getElem?_set_ne (Ne.symm h)]

structure Fzs (μ : Place) (M : Mem) (w : World) (H : Heap) (M' : Mem) (H' : Heap) : Prop where
  sim : Sim μ M' w H'
  nx : Nx μ M w H μ M' w H'
  pv : H'.map pv = H.map pv
theorem Fzs.refl {μ : Place} {M : Mem} {w : World} {H : Heap} (hs : Sim μ M w H) : Fzs μ M w H M H := ⟨hs, .refl _ _ _ _, rfl⟩
theorem Fzs.trans {μ : Place} {M M1 M2 : Mem} {w : World} {H H1 H2 : Heap} (h : Fzs μ M w H M1 H1) (k : Fzs μ M1 w H1 M2 H2) : Fzs μ M w H M2 H2 := ⟨k.sim, h.nx.trans k.nx, k.pv.trans h.pv⟩

def FzOK (f : AV → Heap → Option (FV × Heap)) : Prop := ∀ (μ : Place) (M : Mem) (w : World) (H H' : Heap) (v : Value) (a : AV) (x : FV), Sim μ M w H → VR M μ v a → f a H = some (x, H') → ∃ M', FR M' v x ∧ Fzs μ M w H M' H'
theorem fzL_sound {f : AV → Heap → Option (FV × Heap)} (hf : FzOK f) : ∀ (az : List AV) {μ : Place} {M : Mem} {w : World} {H H' : Heap} {vs : List Value} {xs : List FV}, Sim μ M w H →
    (∀ (i : Nat) (v : Value) (a : AV), vs[i]? = some v → az[i]? = some a → VR M μ v a) → vs.length = az.length → fzL f az H = some (xs, H') →
    ∃ M', xs.length = az.length ∧ (∀ (i : Nat) (v : Value) (x : FV), vs[i]? = some v → xs[i]? = some x → FR M' v x) ∧ Fzs μ M w H M' H'
  | [], μ, M, w, H, H', vs, xs, hs, _, _, h => by
    simp only [fzL, Option.some.injEq, Prod.mk.injEq] at h
    obtain ⟨rfl, rfl⟩ := h
    exact ⟨M, rfl, fun i v x _ e => by simp at e, .refl hs⟩
  | a :: az, μ, M, w, H, H', vs, xs, hs, hv, hl, h => by
    match vs, hl with
    | v :: vs, hl =>
      simp only [fzL] at h
      split at h
      · rename_i x H1 e1
        split at h
        · rename_i xs' H2 e2
          simp only [Option.some.injEq, Prod.mk.injEq] at h
          obtain ⟨rfl, rfl⟩ := h
          obtain ⟨M1, r1, k1⟩ := hf _ _ _ _ _ _ _ _ hs (hv 0 v a rfl rfl) e1
          obtain ⟨M2, r2, r3, k2⟩ := fzL_sound hf az (vs := vs) k1.sim (fun i v a h1 h2 => (hv (i + 1) v a (by simpa using h1) (by simpa using h2)).ext k1.nx.ext) (by simpa using hl) e2
          refine ⟨M2, by simp [r2], fun i u y h1 h2 => ?_, k1.trans k2⟩
          cases i with
          | zero => simp at h1 h2; subst h1; subst h2; exact r1.ext k2.nx.ext.mem
          | succ i => exact r3 i u y (by simpa using h1) (by simpa using h2)
        · cases h
      · cases h
theorem VR.row_inv {M : Mem} {μ : Place} {v : Value} {b g : Nat} (h : VR M μ v (.row b g)) : ∃ l, μ b = some l ∧ (l.g = g → v = l.val) := by
  cases h with
  | row v b g l a1 a2 a3 a4 => exact ⟨l, a1, a4⟩
theorem fzN_sound : ∀ n, FzOK (fzN n)
  | 0 => fun _ _ _ _ _ _ _ _ _ _ h => by simp [fzN] at h
  | n + 1 => fun μ M w H H' v a x hs hv h => by
    cases a with
    | d y =>
      simp only [fzN, Option.some.injEq, Prod.mk.injEq] at h
      obtain ⟨rfl, rfl⟩ := h
      exact ⟨M, hv.d_inv.norm, .refl hs⟩
    | row b g =>
      simp only [fzN] at h
      split at h
      · rename_i ty sz el g' p e
        split at h
        · rename_i hg
          subst hg
          simp only [Option.some.injEq, Prod.mk.injEq] at h
          obtain ⟨rfl, rfl⟩ := h
          obtain ⟨M', r1, r2, r3⟩ := fz_row hs e hv
          exact ⟨M', r1, r2, r3, pv_set e rfl⟩
        · cases h
      · rename_i ty el g' p e
        split at h
        · rename_i hg
          subst hg
          split at h
          · rename_i xs H1 e1
            simp only [Option.some.injEq, Prod.mk.injEq] at h
            obtain ⟨rfl, rfl⟩ := h
            obtain ⟨l, h1, h2, h3, h4, h6, h7, h8⟩ := hs.blk b _ e
            obtain ⟨l', k1, k3⟩ := hv.row_inv
            rw [h1] at k1
            cases k1
            have hval := k3 h2
            subst hval
            have hlt : b < H.length := (List.getElem?_eq_some_iff.1 e).1
            rcases h8 with ⟨a1, a2, a3⟩ | ⟨B, vs, a1, a2, a3, a4, a6, a7⟩
            · subst a2
              simp only [fzL, Option.some.injEq, Prod.mk.injEq] at e1
              obtain ⟨rfl, rfl⟩ := e1
              refine ⟨M, ?_, ?_, ?_, pv_set e rfl⟩
              · have : l.val = .slice none 0 l.cap := by simp [Loc.val, a1, h3]
                rw [this]; exact .slE _ _
              · refine hs.turn b (.refl _ _) (fun x hx => hs.dom x (by simpa using hx)) hs.mem (fun x hx => getElem?_set_ne' _ _ _ _ hx) (fun _ _ => rfl) (fun k hk => ?_) (fun l0 B e1 e2 => .inl ⟨l0, e1, e2⟩) (fun x l0 B _ _ _ => ⟨rfl, fun _ h => h⟩)
                rw [List.getElem?_set_self hlt] at hk
                cases hk
                exact ⟨l, h1, h2, h3, h4, Nat.le_refl _, h7, .inl ⟨a1, rfl, a3⟩⟩
              · exact hs.turnNx b (.refl _ _) (fun _ _ => rfl) (fun l0 B e1 e2 => .inl ⟨l0, e1, e2⟩) rfl rfl rfl (Nat.le_refl _) (fun _ _ _ => rfl) (fun _ _ _ h => .inl h)
            · have hel : el.length ≤ vs.size := by omega
              obtain ⟨M1, q1, q2, q3⟩ := fzL_sound (fzN_sound n) el (vs := vs.toList.take el.length) hs (fun i u y e2 e3 => by
                have hi := (List.getElem?_eq_some_iff.1 e3).1
                rw [List.getElem?_take, if_pos hi] at e2
                exact a6 i y u e3 (by simpa using e2)) (by simp; omega) e1
              obtain ⟨p', e'⟩ := pv_rows q3.pv e
              have hlt1 : b < H1.length := (List.getElem?_eq_some_iff.1 e').1
              have hs1 := q3.sim
              have cell : ∀ o, w.cell? ⟨B, o, none⟩ = vs[o]? := fun o => by simp [World.cell?, a2]
              have hext : Ext M1 μ (fast M1 B vs el.length) μ := ⟨fun c o u hu => by
                unfold fast
                split
                · rename_i h
                  obtain ⟨rfl, h⟩ := h
                  rw [← cell]; exact hs1.mem _ _ _ hu
                · exact hu, (Ext.refl M1 μ).loc⟩
              have hmem : ∀ c o u, fast M1 B vs el.length c o = some u → w.cell? ⟨c, o, none⟩ = some u := fun c o u hu => by
                unfold fast at hu
                split at hu
                · rename_i h
                  obtain ⟨rfl, h⟩ := h
                  rw [cell]; exact hu
                · exact hs1.mem _ _ _ hu
              have hM1 : ∀ o, p' ≤ o → M1 B o = none := by
                obtain ⟨l2, b1, b2, b3, b4, b6, b7, b8⟩ := hs1.blk b _ e'
                rw [h1] at b1
                cases b1
                rcases b8 with ⟨c1, _⟩ | ⟨B2, vs2, c1, c2, c3, c4, c6, c7⟩
                · rw [a1] at c1; cases c1
                · rw [a1] at c1; cases c1; exact c7
              have hp' : p' ≤ el.length := by
                obtain ⟨l2, b1, b2, b3, b4, b6, b7, b8⟩ := hs1.blk b _ e'
                exact b6
              refine ⟨fast M1 B vs el.length, ?_, ?_, ?_, ?_⟩
              · by_cases hne : el = []
                · subst hne
                  have : l.val = .slice (some ⟨B, 0, none⟩) 0 l.cap := by simp [Loc.val, a1, h3]
                  have hx : xs = [] := List.eq_nil_of_length_eq_zero (by simpa using q1)
                  subst hx
                  rw [this]; exact .slE _ _
                · have : l.val = .slice (some ⟨B, 0, none⟩) (xs.map fun x => [x]).length l.cap := by simp [Loc.val, a1, h3, q1]
                  rw [this]
                  have at' : ∀ i cs, (xs.map fun x => [x])[i]? = some cs → ∃ y, xs[i]? = some y ∧ cs = [y] := fun i cs h => by
                    rw [List.getElem?_map] at h
                    cases hy : xs[i]? with
                    | none => rw [hy] at h; cases h
                    | some y => rw [hy] at h; simp at h; exact ⟨y, by first | rfl | exact hy, h.symm⟩
                  have at2 : ∀ i cs j x, (xs.map fun x => [x])[i]? = some cs → cs[j]? = some x → j = 0 ∧ xs[i]? = some x ∧ i < el.length ∧ ∃ u, vs[i]? = some u := fun i cs j x h1 h2 => by
                    obtain ⟨y, e1, rfl⟩ := at' i cs h1
                    have hj : j = 0 := by
                      have := (List.getElem?_eq_some_iff.1 h2).1
                      simpa using this
                    subst hj
                    simp at h2
                    subst h2
                    have hi := (List.getElem?_eq_some_iff.1 e1).1
                    rw [q1] at hi
                    exact ⟨rfl, e1, hi, vs[i]'(by omega), by simp [show i < vs.size by omega]⟩
                  refine .sl B 0 l.cap 1 (fun i j => (vs[i * 1 + j]?).getD undef) _ (fun h => hne (List.eq_nil_of_length_eq_zero (by rw [← q1]; simpa using h))) (by simp; omega) (fun i cs h => ?_) (fun i cs j x e1 e2 => ?_) (fun i cs j x e1 e2 => ?_)
                  · obtain ⟨y, _, rfl⟩ := at' i cs h; rfl
                  · obtain ⟨rfl, _, hi, u, hu⟩ := at2 i cs j x e1 e2
                    simp [fast, hi, hu]
                  · obtain ⟨rfl, h2, hi, u, hu⟩ := at2 i cs j x e1 e2
                    simp only [Nat.mul_one, Nat.add_zero, hu, Option.getD_some]
                    exact (q2 i u x (by rw [List.getElem?_take, if_pos hi]; simpa using hu) h2).ext hext.mem
              · refine hs1.turn b hext (fun x hx => hs1.dom x (by simpa using hx)) hmem (fun x hx => getElem?_set_ne' _ _ _ _ hx) (fun _ _ => rfl) (fun k hk => ?_) (fun l0 B e1 e2 => .inl ⟨l0, e1, e2⟩) (fun x l0 B0 hx e1 e2 => ⟨rfl, fun o h => ?_⟩)
                · rw [List.getElem?_set_self hlt1] at hk
                  cases hk
                  refine ⟨l, h1, h2, h3, h4, Nat.le_refl _, h7, .inr ⟨B, vs, a1, a2, a3, a4, fun i x u e1 e2 => ((a6 i x u e1 e2).ext q3.nx.ext).ext hext, fun o ho => ?_⟩⟩
                  unfold fast
                  rw [if_neg (by omega)]
                  exact hM1 o (by omega)
                · unfold fast
                  rw [if_neg]
                  · exact h
                  · rintro ⟨rfl, _⟩
                    exact hs1.apart x b l0 l B0 (hs1.lt e1 e2).1 hlt1 hx e1 h1 e2 a1
              · refine q3.nx.trans (hs1.turnNx b hext (fun _ _ => rfl) (fun l0 B e1 e2 => .inl ⟨l0, e1, e2⟩) rfl rfl rfl (Nat.le_refl _) (fun _ _ _ => rfl) (fun c o u h => ?_))
                unfold fast at h
                split at h
                · rename_i h'
                  exact .inr (.inl ⟨l, h1, by rw [a1, h'.1]⟩)
                · exact .inl h
              · exact (pv_set (k' := .rows ty el g el.length) e' rfl).trans q3.pv
          · cases h
        · cases h
      · cases h
    | _ => simp [fzN] at h
theorem fz_sound : FzOK fz := fzN_sound 4
end Go.Vm
/- A heap laid anew: the relation holds on. -/
namespace Go.Vm
open Go
theorem renL_get (ρ : Ren) : ∀ (cs : List AV) (i : Nat), (renL ρ cs)[i]? = (cs[i]?).map (ren ρ)
  | [], i => by simp [renL]
  | a :: az, 0 => by simp [renL]
  | a :: az, i + 1 => by simp [renL, renL_get ρ az i]
theorem renL_length (ρ : Ren) : ∀ (cs : List AV), (renL ρ cs).length = cs.length
  | [] => by simp [renL]
  | a :: az => by simp [renL, renL_length ρ az]

/-- new numbers for old ones -/
def RenOK (μ μ' : Place) (ρ : Ren) : Prop := ∀ b b' g0 g1 l, ρ b = some (b', g0, g1) → μ b = some l → l.g = g0 ∧ μ' b' = some { l with g := g1 }
theorem VR.ren {M : Mem} {μ μ' : Place} {ρ : Ren} (hρ : RenOK μ μ' ρ) {v : Value} {a : AV} (h : VR M μ v a) : VR M μ' v (ren ρ a) := by
  induction h with
  | d h => simp only [Vm.ren]; exact .d h
  | undef v => simp only [Vm.ren]; exact .undef v
  | fptr b o u cs hM hR => simp only [Vm.ren]; exact .fptr b o u cs hM hR
  | iface t v a _ ih => simp only [Vm.ren]; exact .iface t v _ ih
  | agg vs cs hl _ ih =>
    simp only [Vm.ren]
    refine .agg vs _ (by rw [renL_length]; exact hl) fun i v a h1 h2 => ?_
    rw [renL_get] at h2
    cases hc : cs[i]? with
    | none => rw [hc] at h2; cases h2
    | some c => rw [hc] at h2; cases h2; exact ih i v c h1 hc
  | tup vs cs hl _ ih =>
    simp only [Vm.ren]
    refine .tup vs _ (by rw [renL_length]; exact hl) fun i v a h1 h2 => ?_
    rw [renL_get] at h2
    cases hc : cs[i]? with
    | none => rw [hc] at h2; cases h2
    | some c => rw [hc] at h2; cases h2; exact ih i v c h1 hc
  | func f vs cs hl _ ih =>
    simp only [Vm.ren]
    refine .func f vs _ (by rw [renL_length]; exact hl) fun i v a h1 h2 => ?_
    rw [renL_get] at h2
    cases hc : cs[i]? with
    | none => rw [hc] at h2; cases h2
    | some c => rw [hc] at h2; cases h2; exact ih i v c h1 hc
  | row v b g l hl hg h1 h =>
    simp only [Vm.ren]
    split
    · rename_i b' g0 g1 e
      split
      · rename_i hgg
        obtain ⟨k1, k2⟩ := hρ b b' g0 g1 l e hl
        exact .row v b' g1 _ k2 (Nat.le_refl _) h1 (fun _ => h (by omega))
      · exact .undef v
    · exact .undef v
  | eptr v b g i j l hl hg h1 h =>
    simp only [Vm.ren]
    split
    · rename_i b' g0 g1 e
      split
      · rename_i hgg
        obtain ⟨k1, k2⟩ := hρ b b' g0 g1 l e hl
        exact .eptr v b' g1 i j _ k2 (Nat.le_refl _) h1 (fun _ => h (by omega))
      · exact .undef v
    · exact .undef v
  | bptr v b j l hl h1 h =>
    simp only [Vm.ren]
    split
    · rename_i b' g0 g1 e
      split
      · rename_i hgg
        obtain ⟨k1, k2⟩ := hρ b b' g0 g1 l e hl
        exact .bptr v b' j _ k2 h1 (fun _ => h (by omega))
      · exact .undef v
    · exact .undef v
  | win v b g lo n l hl hg h1 h =>
    simp only [Vm.ren]
    split
    · rename_i b' g0 g1 e
      split
      · rename_i hgg
        subst hgg
        obtain ⟨k1, k2⟩ := hρ b b' g g1 l e hl
        exact .win v b' g1 lo n _ k2 (Nat.le_refl _) h1 (fun _ => h (by omega))
      · exact .undef v
    · exact .undef v
  | map v b l hl h1 h =>
    simp only [Vm.ren]
    split
    · rename_i b' g0 g1 e
      split
      · rename_i hgg
        obtain ⟨k1, k2⟩ := hρ b b' g0 g1 l e hl
        exact .map v b' _ k2 h1 (fun _ => h (by omega))
      · exact .undef v
    · exact .undef v
theorem VRs.renL {M : Mem} {μ μ' : Place} {ρ : Ren} (hρ : RenOK μ μ' ρ) {vs : Array Value} {cs : List AV} (h : VRs M μ vs cs) : VRs M μ' vs (renL ρ cs) :=
  ⟨by rw [renL_length]; exact h.1, fun i v a h1 h2 => by
    rw [renL_get] at h2
    cases hc : cs[i]? with
    | none => rw [hc] at h2; cases h2
    | some c => rw [hc] at h2; cases h2; exact (h.2 i v c h1 hc).ren hρ⟩

theorem Sim.gen {μ : Place} {M : Mem} {w : World} {H : Heap} (hs : Sim μ M w H) {b : Nat} {k : Blk} (hb : H[b]? = some k) : ∃ l, μ b = some l ∧ genOf H b = some l.g := by
  have := hs.blk b k hb
  cases k with
  | box ty cs => obtain ⟨l, B, vs, h1, h2, _⟩ := this; exact ⟨l, h1, by simp [genOf, hb, h2]⟩
  | row ty sz el g p => obtain ⟨l, h1, h2, _⟩ := this; exact ⟨l, h1, by simp [genOf, hb, h2]⟩
  | rows ty el g p => obtain ⟨l, h1, h2, _⟩ := this; exact ⟨l, h1, by simp [genOf, hb, h2]⟩
  | map ty es => obtain ⟨l, B, vs, c, h1, h2, _⟩ := this; exact ⟨l, h1, by simp [genOf, hb, h2]⟩
theorem Sim.gen' {μ : Place} {M : Mem} {w : World} {H : Heap} (hs : Sim μ M w H) {b g : Nat} {l : Loc} (hg : genOf H b = some g) (hl : μ b = some l) : l.g = g := by
  unfold genOf at hg
  cases hk : H[b]? with
  | none => simp [hk] at hg
  | some k =>
    obtain ⟨l', h1, h2⟩ := hs.gen hk
    rw [hl] at h1
    cases h1
    unfold genOf at h2
    simp only [hk] at h2 hg
    rw [h2] at hg
    cases hg
    rfl
/-- a block by its new name -/
theorem BlkOK.ren {μ μ' : Place} {M : Mem} {w : World} {b b' g1 : Nat} {k : Blk} {ρ : Ren} {l : Loc} (h : BlkOK μ M w b k) (hl : μ b = some l) (hρ : RenOK μ μ' ρ) (hl' : μ' b' = some { l with g := g1 })
    (hz : l.g = 0 → (match k with | .row .. => True | .rows .. => True | _ => g1 = 0)) : BlkOK μ' M w b' (renB ρ g1 k) := by
  cases k with
  | box ty cs =>
    obtain ⟨l0, B, vs, h1, h2, h3, h4, h5, h6⟩ := h
    rw [hl] at h1
    cases h1
    exact ⟨_, B, vs, hl', hz h2, h3, h4, h5.renL hρ, h6⟩
  | row ty sz el g p =>
    obtain ⟨l0, h1, h2, h3, h4, h5, h6, h7, h8⟩ := h
    rw [hl] at h1
    cases h1
    exact ⟨_, hl', rfl, h3, h4, h5, h6, h7, h8⟩
  | rows ty el g p =>
    obtain ⟨l0, h1, h2, h3, h4, h6, h7, h8⟩ := h
    rw [hl] at h1
    cases h1
    refine ⟨_, hl', rfl, by rw [renL_length]; exact h3, h4, by rw [renL_length]; exact h6, h7, ?_⟩
    rcases h8 with ⟨a1, a2, a3⟩ | ⟨B, vs, a1, a2, a3, a4, a6, a7⟩
    · subst a2; exact .inl ⟨a1, by simp [Vm.renL], a3⟩
    · refine .inr ⟨B, vs, a1, a2, a3, a4, fun i x v e1 e2 => ?_, a7⟩
      rw [renL_get] at e1
      cases hc : el[i]? with
      | none => rw [hc] at e1; cases e1
      | some c => rw [hc] at e1; cases e1; exact (a6 i c v hc e2).ren hρ
  | map ty es =>
    obtain ⟨l0, B, vs, c, h1, h2, h3, h4, h5, h6, h7⟩ := h
    rw [hl] at h1
    cases h1
    exact ⟨_, B, vs, c, hl', hz h2, h3, h4, h5, h6, h7⟩

theorem filterMap_get {α β : Type} (f : α → Option β) : ∀ (L : List α), (∀ b ∈ L, (f b).isSome = true) → ∀ (i : Nat), (L.filterMap f)[i]? = (L[i]?).bind f
  | [], _, i => by simp
  | a :: az, h, i => by
    have ha := h a (by simp)
    cases hf : f a with
    | none => rw [hf] at ha; cases ha
    | some y =>
      rw [List.filterMap_cons_some hf]
      cases i with
      | zero => simp [hf]
      | succ i => simpa using filterMap_get f az (fun b hb => h b (by simp [hb])) i
theorem filterMap_len {α β : Type} (f : α → Option β) : ∀ (L : List α), (∀ b ∈ L, (f b).isSome = true) → (L.filterMap f).length = L.length
  | [], _ => by simp
  | a :: az, h => by
    have ha := h a (by simp)
    cases hf : f a with
    | none => rw [hf] at ha; cases ha
    | some y => rw [List.filterMap_cons_some hf]; simp [filterMap_len f az (fun b hb => h b (by simp [hb]))]

def placeOf (μ : Place) (L : List Nat) (gn : Nat → Nat → Nat) : Place := fun i => (L[i]?).bind fun b => (μ b).map fun l => { l with g := gn b l.g }
theorem idxOf_get {L : List Nat} {b i : Nat} (h : L.idxOf? b = some i) : L[i]? = some b := by
  rw [List.idxOf?_eq_some_iff] at h
  obtain ⟨hl, hx, _⟩ := h
  simp [List.getElem?_eq_getElem hl]
  simpa using hx
theorem RenOK.renOf {μ : Place} {M : Mem} {w : World} {H : Heap} (hs : Sim μ M w H) (L : List Nat) (gn : Nat → Nat → Nat) : RenOK μ (placeOf μ L gn) (renOf H L gn) := by
  intro b b' g0 g1 l h hl
  unfold Vm.renOf at h
  split at h
  · rename_i i g e1 e2
    cases h
    have := hs.gen' e2 hl
    subst this
    exact ⟨rfl, by simp [placeOf, idxOf_get e1, hl]⟩
  · cases h
theorem Sim.rebase {μ : Place} {M : Mem} {w : World} {H : Heap} (hs : Sim μ M w H) (L : List Nat) (gn : Nat → Nat → Nat) (hL : L.Nodup) (hr : ∀ b ∈ L, b < H.length) (hz : ∀ b, gn b 0 = 0) :
    Sim (placeOf μ L gn) M w (rebase H L gn) := by
  have hsome : ∀ b ∈ L, (rebOne H L gn b).isSome = true := fun b hb => by
    have hlt := hr b hb
    have hk : H[b]? = some (H[b]'hlt) := by simp [hlt]
    obtain ⟨l, h1, h2⟩ := hs.gen hk
    simp [rebOne, hk, h2]
  have hlen : (Vm.rebase H L gn).length = L.length := filterMap_len _ L hsome
  have hget := filterMap_get _ L hsome
  refine ⟨hs.mem, fun x hx => ?_, fun i k hk => ?_, fun i j l l' B hi hj hne h1 h2 h3 h4 => ?_⟩
  · rw [hlen] at hx
    simp [placeOf, List.getElem?_eq_none hx]
  · have := hget i
    unfold Vm.rebase at hk
    rw [this] at hk
    cases hLi : L[i]? with
    | none => rw [hLi] at hk; cases hk
    | some b =>
      rw [hLi] at hk
      simp only [Option.bind_some] at hk
      have hbm : b ∈ L := List.mem_of_getElem? hLi
      have hlt := hr b hbm
      have hk0 : H[b]? = some (H[b]'hlt) := by simp [hlt]
      obtain ⟨l, e1, e2⟩ := hs.gen hk0
      simp only [rebOne, hk0, e2, Option.some.injEq] at hk
      subst hk
      refine (hs.blk b _ hk0).ren e1 (RenOK.renOf hs L gn) (by simp [placeOf, hLi, e1]) fun h0 => ?_
      rw [h0]
      split <;> first | trivial | exact hz b
  · simp only [placeOf] at h1 h2
    rw [hlen] at hi hj
    rw [List.getElem?_eq_getElem hi] at h1
    rw [List.getElem?_eq_getElem hj] at h2
    simp only [Option.bind_some, Option.map_eq_some_iff] at h1 h2
    obtain ⟨m, e1, rfl⟩ := h1
    obtain ⟨m', e2, rfl⟩ := h2
    exact hs.apart L[i] L[j] m m' B (hr _ (List.getElem_mem hi)) (hr _ (List.getElem_mem hj)) (fun e => by
      rcases Nat.lt_or_gt_of_ne hne with q | q
      · exact (List.pairwise_iff_getElem.1 hL) i j hi hj q e
      · exact (List.pairwise_iff_getElem.1 hL) j i hj hi q e.symm) e1 e2 h3 h4
theorem owns_placeOf {μ : Place} {H : Heap} {L : List Nat} {gn : Nat → Nat → Nat} (hr : ∀ b ∈ L, b < H.length) {B : Nat} (h : owns (placeOf μ L gn) (rebase H L gn) B) : owns μ H B := by
  obtain ⟨i, l, hi, h1, h2⟩ := h
  simp only [placeOf] at h1
  cases hLi : L[i]? with
  | none => rw [hLi] at h1; cases h1
  | some b =>
    rw [hLi] at h1
    simp only [Option.bind_some, Option.map_eq_some_iff] at h1
    obtain ⟨m, e1, rfl⟩ := h1
    exact ⟨b, m, hr b (List.mem_of_getElem? hLi), e1, h2⟩
end Go.Vm
/- Which operations stand for which; operations that touch no memory. -/
namespace Go.Vm
open Go

def okC : FV → Value → Bool
  | .int k n, .int k' n' => k == k' && n == n'
  | .bool b, .bool b' => b == b'
  | .str s, .string s' => s.data == s'.data
  | .float k n, .float k' n' => k == k' && n == n'
  | .nil, .slice none 0 0 => true
  | .nilPtr, .pointer none => true
  | .nilIface, .nilIface => true
  | .nilFunc, .nilFunc => true
  | .nilMap, .map none => true
  | _, _ => false
def okA : Arg → Operand → Bool
  | .t n, .tmp m => n == m
  | .c (.fn f), .func g => f == g
  | .c v, .const x => okC v x
  | _, _ => false
def okCs : List FV → List Value → Bool
  | [], [] => true
  | a :: r, v :: vs => okC a v && okCs r vs
  | _, _ => false
theorem okC_sound {M : Mem} {x : FV} {v : Value} (h : okC x v = true) : FR M v x := by
  unfold okC at h
  split at h <;> simp at h
  · obtain ⟨rfl, rfl⟩ := h; exact .int _ _
  · subst h; exact .bool _
  · rename_i s s'
    have : s = s' := by cases s; cases s'; simp_all
    subst this; exact .str _
  · obtain ⟨rfl, rfl⟩ := h; exact .float _ _
  · exact .nil
  · exact .nilPtr
  · exact .nilIface
  · exact .nilFunc
  · exact .nilMap
theorem okCs_sound {M : Mem} : ∀ {xs : List FV} {vs : List Value}, okCs xs vs = true → vs.length = xs.length ∧ ∀ (i : Nat) (v : Value) (x : FV), vs[i]? = some v → xs[i]? = some x → FR M v x
  | [], [], _ => ⟨rfl, fun i v x h => by simp at h⟩
  | a :: r, v :: vs, h => by
    simp only [okCs, Bool.and_eq_true] at h
    obtain ⟨h1, h2⟩ := okCs_sound (M := M) h.2
    refine ⟨by simp [h1], fun i u x e1 e2 => ?_⟩
    cases i with
    | zero => simp at e1 e2; subst e1; subst e2; exact okC_sound h.1
    | succ i => exact h2 i u x (by simpa using e1) (by simpa using e2)
  | [], _ :: _, h => by simp [okCs] at h
  | _ :: _, [], h => by simp [okCs] at h

/-- the temporaries stand for the environment -/
def EnvR (M : Mem) (μ : Place) (a : Act) (env : List AV) : Prop := VRs M μ a.tmps env
theorem EnvR.arg {M : Mem} {μ : Place} {a : Act} {env : List AV} (h : EnvR M μ a env) {x : Arg} {y : Operand} (hok : okA x y = true) : VR M μ (a.eval y) (x.ev env) := by
  unfold okA at hok
  split at hok
  · rename_i n m
    simp at hok
    subst hok
    simp only [Act.eval, Arg.ev]
    rcases Nat.lt_or_ge n env.length with hn | hn
    · have hn' : n < a.tmps.size := by rw [h.1]; exact hn
      refine h.2 n _ _ ?_ ?_
      · simp [Array.getElem?_eq_getElem hn', Array.getD_eq_getD_getElem?]
      · simp [List.getElem?_eq_getElem hn, List.getD_eq_getElem?_getD]
    · simp only [List.getD_eq_getElem?_getD, List.getElem?_eq_none hn, Option.getD_none]
      exact .undef _
  · simp at hok; subst hok; exact .d (.fn _)
  · exact .d (okC_sound hok)
  · cases hok

/-- what an operation comes to: its value, the machine behind it, the relation -/
def Post (μ : Place) (M : Mem) (w : World) (H : Heap) (a : AV) (H' : Heap) (r : Result Next) : Prop :=
  ∃ (v : Value) (w' : World) (μ' : Place) (M' : Mem), (r = .ok (.value v) w' ∨ (r = .ok .skip w' ∧ v = undef)) ∧ VR M' μ' v a ∧ Sim μ' M' w' H' ∧ Nx μ M w H μ' M' w' H'
theorem Post.pure {μ : Place} {M : Mem} {w : World} {H : Heap} {a : AV} {v : Value} {r : Result Next} (hs : Sim μ M w H) (hv : VR M μ v a) (hr : r = .ok (.value v) w) : Post μ M w H a H r :=
  ⟨v, w, μ, M, .inl hr, hv, hs, .refl _ _ _ _⟩

theorem VR.int_inv {M : Mem} {μ : Place} {v : Value} {k : IntKind} {n : Int} (h : VR M μ v (.d (.int k n))) : v = .int k n := by
  cases h with | d h => cases h; rfl
theorem VR.bool_inv {M : Mem} {μ : Place} {v : Value} {b : Bool} (h : VR M μ v (.d (.bool b))) : v = .bool b := by
  cases h with | d h => cases h; rfl
theorem VR.str_inv {M : Mem} {μ : Place} {v : Value} {s : ByteArray} (h : VR M μ v (.d (.str s))) : v = .string s := by
  cases h with | d h => cases h; rfl
theorem VR.float_inv {M : Mem} {μ : Place} {v : Value} {k : FloatKind} {b : Nat} (h : VR M μ v (.d (.float k b))) : v = .float k b := by
  cases h with | d h => cases h; rfl
theorem VR.nil_inv {M : Mem} {μ : Place} {v : Value} (h : VR M μ v (.d .nil)) : v = .slice none 0 0 := by
  cases h with | d h => cases h; rfl
theorem VR.emp_inv {M : Mem} {μ : Place} {v : Value} (h : VR M μ v (.d .emp)) : ∃ A, v = .slice A 0 0 := by
  cases h with | d h => cases h; exact ⟨_, rfl⟩
theorem intOf_inv {M : Mem} {μ : Place} {v : Value} {a : AV} {n : Int} (h : VR M μ v a) (e : intOf a = some n) : ∃ k, v = .int k n := by
  unfold intOf at e
  split at e
  · cases e; exact ⟨_, h.int_inv⟩
  · cases e
theorem VR.agg_inv {M : Mem} {μ : Place} {v : Value} {cs : List AV} (h : VR M μ v (.agg cs)) : ∃ vs, v = .agg vs ∧ VRs M μ vs cs := by
  cases h with | agg vs cs hl h => exact ⟨vs, rfl, hl, h⟩
theorem VR.tup_inv {M : Mem} {μ : Place} {v : Value} {cs : List AV} (h : VR M μ v (.tup cs)) : ∃ vs, v = .tuple vs ∧ VRs M μ vs cs := by
  cases h with | tup vs cs hl h => exact ⟨vs, rfl, hl, h⟩

section
variable {P : Program} {μ : Place} {M : Mem} {w : World} {H : Heap} {a : Act} {env : List AV}

theorem op_mv {x : Arg} {y : Operand} {o : Oper} (ho : o.op = .move y ∨ o.op = .assign y) (hok : okA x y = true) (hs : Sim μ M w H) (he : EnvR M μ a env) {v : AV} {H' : Heap}
    (h : evOp (.mv x) env H = some (v, H')) : Post μ M w H v H' ((execOp a.eval o).run P w) := by
  simp only [evOp, Option.some.injEq, Prod.mk.injEq] at h
  obtain ⟨rfl, rfl⟩ := h
  exact .pure hs (he.arg hok) (by rcases ho with ho | ho <;> simp [execOp, ho])
theorem op_pick {c x y : Arg} {c' x' y' : Operand} {o : Oper} (ho : o.op = .pick c' x' y') (h1 : okA c c' = true) (h2 : okA x x' = true) (h3 : okA y y' = true) (hs : Sim μ M w H) (he : EnvR M μ a env) {v : AV} {H' : Heap}
    (h : evOp (.pick c x y) env H = some (v, H')) : Post μ M w H v H' ((execOp a.eval o).run P w) := by
  simp only [evOp] at h
  split at h
  · rename_i t e
    simp only [Option.some.injEq, Prod.mk.injEq] at h
    obtain ⟨rfl, rfl⟩ := h
    have hc := he.arg h1
    rw [e] at hc
    have hc := hc.bool_inv
    cases t with
    | true => exact .pure hs (v := a.eval x') (by simpa using he.arg h2) (by simp [execOp, ho, asBool, hc])
    | false => exact .pure hs (v := a.eval y') (by simpa using he.arg h3) (by simp [execOp, ho, asBool, hc])
  · cases h
theorem op_ext {x : Arg} {y : Operand} {i : Nat} {o : Oper} (ho : o.op = .extract y i) (hok : okA x y = true) (hs : Sim μ M w H) (he : EnvR M μ a env) {v : AV} {H' : Heap}
    (h : evOp (.ext x i) env H = some (v, H')) : Post μ M w H v H' ((execOp a.eval o).run P w) := by
  simp only [evOp] at h
  split at h
  · rename_i vs e
    simp only [Option.map_eq_some_iff, Prod.mk.injEq] at h
    obtain ⟨u, e1, rfl, rfl⟩ := h
    have hx := he.arg hok
    rw [e] at hx
    obtain ⟨us, e2, hl, hu⟩ := hx.tup_inv
    have hi := (List.getElem?_eq_some_iff.1 e1).1
    have hi' : i < us.size := by omega
    have e3 : us[i]? = some us[i] := by simp [hi']
    exact .pure hs (hu i _ _ e3 e1) (by simp [execOp, ho, e2, Instr.extract, e3])
  · cases h
theorem op_iface {x : Arg} {y : Operand} {t : Nat} {o : Oper} (ho : o.op = .makeInterface t y) {d : TypeDesc} (hd : P.underlying t = some d) (hn : ∀ ms, d ≠ .interface ms) (hok : okA x y = true) (hs : Sim μ M w H) (he : EnvR M μ a env) {v : AV} {H' : Heap}
    (h : evOp (.iface t x) env H = some (v, H')) : Post μ M w H v H' ((execOp a.eval o).run P w) := by
  simp only [evOp, Option.some.injEq, Prod.mk.injEq] at h
  obtain ⟨rfl, rfl⟩ := h
  refine .pure hs (.iface t _ _ (he.arg hok)) ?_
  simp only [execOp, ho, Instr.makeInterface, underlying]
  cases d <;> simp [hd] at hn ⊢
theorem cur_ptr (hs : Sim μ M w H) {v : Value} {x : AV} (hv : VR M μ v x) (hc : cur H x = true) (hp : isPtr x = true) : ∃ b o, v = .pointer (some ⟨b, o, none⟩) ∧ ∀ n, VR M μ (.pointer (some ⟨b, o + n, none⟩)) (shift n x) := by
  cases hv with
  | bptr v b j l hl h1 h =>
    simp only [cur, beq_iff_eq] at hc
    obtain ⟨B, h2, rfl⟩ := h (hs.gen' hc hl)
    exact ⟨B, j, rfl, fun n => .bptr _ b (j + n) l hl ⟨_, rfl⟩ fun _ => ⟨B, h2, rfl⟩⟩
  | eptr v b g i j l hl hg h1 h =>
    simp only [cur, beq_iff_eq] at hc
    obtain ⟨B, h2, rfl⟩ := h (hs.gen' hc hl)
    exact ⟨B, _, rfl, fun n => .eptr _ b g i (j + n) l hl hg ⟨_, rfl⟩ fun _ => ⟨B, h2, by rw [Nat.add_assoc]⟩⟩
  | fptr b o u cs hM hR =>
    refine ⟨b, o, rfl, fun n => .fptr b (o + n) (fun j => u (n + j)) _ (fun j x e => ?_) (fun j x e => ?_)⟩
    · rw [List.getElem?_drop] at e
      rw [Nat.add_assoc]; exact hM _ x e
    · rw [List.getElem?_drop] at e
      exact hR _ x e
  | _ => simp [isPtr] at hp
theorem op_chk {x : Arg} {y : Operand} {o : Oper} (ho : o.op = .nilCheck y) (hok : okA x y = true) (hs : Sim μ M w H) (he : EnvR M μ a env) {v : AV} {H' : Heap}
    (h : evOp (.chk x) env H = some (v, H')) : Post μ M w H v H' ((execOp a.eval o).run P w) := by
  have hx := he.arg hok
  simp only [evOp] at h
  split at h
  · rename_i hc
    simp only [Option.some.injEq, Prod.mk.injEq] at h
    obtain ⟨rfl, rfl⟩ := h
    refine .pure hs hx ?_
    by_cases hp : isPtr (x.ev env) = true
    · obtain ⟨b, p, e, _⟩ := cur_ptr hs hx hc hp
      simp [execOp, ho, e]
    · have : ∃ f vs, a.eval y = .func (.func f) #[] vs := by
        generalize a.eval y = u at hx
        generalize x.ev env = z at hx hc hp
        cases hx with
        | func f vs cs _ _ => exact ⟨f, vs, rfl⟩
        | _ => simp [isPtr, cur] at hp hc
      obtain ⟨f, vs, e⟩ := this
      simp [execOp, ho, e]
  · cases h
theorem op_fld {x : Arg} {y : Operand} {o : Oper} {t f off n : Nat} {fs : Array Field} {fd : Field} (ho : o.op = .fieldAddr t y f) (hok : okA x y = true) (ht : P.underlying t = some (.struct fs)) (hf : fs[f]? = some fd)
    (hoff : fd.offset = off) (hsz : (P.info? fd.type).map (·.size) = some (n + 1)) (hs : Sim μ M w H) (he : EnvR M μ a env) {v : AV} {H' : Heap}
    (h : evOp (.fld off x) env H = some (v, H')) : Post μ M w H v H' ((execOp a.eval o).run P w) := by
  have hx := he.arg hok
  simp only [evOp] at h
  split at h
  · rename_i hc
    simp only [Bool.and_eq_true] at hc
    simp only [Option.some.injEq, Prod.mk.injEq] at h
    obtain ⟨rfl, rfl⟩ := h
    obtain ⟨b, p, e, hsh⟩ := cur_ptr hs hx hc.1 hc.2
    obtain ⟨i, hi, hin⟩ := Option.map_eq_some_iff.1 hsz
    refine .pure hs (hsh off) ?_
    subst hoff
    have hadd : (⟨b, p, none⟩ : Addr).add fd.offset = ⟨b, p + fd.offset, none⟩ := by unfold Addr.add; split <;> simp_all
    simp [execOp, ho, Instr.fieldAt, underlying, ht, hf, e, Instr.sureAddr, fieldPlace, sizeOf, typeInfo, hi, hin, hadd]
  · cases h
end
end Go.Vm
/- Operations on indexes, parts, strings, numbers. -/
namespace Go.Vm
open Go
section
variable {P : Program} {μ : Place} {M : Mem} {w : World} {H : Heap} {a : Act} {env : List AV}
/-- is it a struct's or an array's type -/
def isAggD : TypeDesc → Bool
  | .struct _ => true
  | .array _ _ => true
  | _ => false
theorem pos_of {g : Bool} {n : Nat} (h : g = true ∨ 0 < n) (hf : g = false) : 0 < n := by
  rcases h with k | k
  · rw [hf] at k; cases k
  · exact k
theorem addr_add (b o n : Nat) : (⟨b, o, none⟩ : Addr).add n = ⟨b, o + n, none⟩ := by unfold Addr.add; split <;> simp_all
theorem run_und {t : TypeId} {d : TypeDesc} (h : P.underlying t = some d) (w : World) : (underlying t).run P w = .ok d w := by simp [underlying, h]
theorem run_size {t : TypeId} {n : Nat} (h : (P.info? t).map (·.size) = some n) (w : World) : (sizeOf t).run P w = .ok n w := by
  obtain ⟨i, hi, hin⟩ := Option.map_eq_some_iff.1 h
  simp [sizeOf, typeInfo, hi, hin]
theorem op_ixp {x ix : Arg} {y iy : Operand} {o : Oper} {t e sz len : Nat} (ho : o.op = .indexAddr t y iy) (hok : okA x y = true) (hoi : okA ix iy = true) (ht : P.underlying t = some (.array len e)) (hsz : (P.info? e).map (·.size) = some sz) (hs : Sim μ M w H) (he : EnvR M μ a env) {v : AV} {H' : Heap}
    (h : evOp (.ixp sz len x ix) env H = some (v, H')) : Post μ M w H v H' ((execOp a.eval o).run P w) := by
  have hx := he.arg hok
  have hi := he.arg hoi
  simp only [evOp] at h
  split at h
  · rename_i i e1
    obtain ⟨k, e2⟩ := intOf_inv hi e1
    split at h
    · rename_i hb
      split at h
      · rename_i hc
        simp only [Bool.and_eq_true] at hc
        simp only [Option.some.injEq, Prod.mk.injEq] at h
        obtain ⟨rfl, rfl⟩ := h
        obtain ⟨b, p, e3, hsh⟩ := cur_ptr hs hx hc.1 hc.2
        refine .pure hs (hsh _) ?_
        simp [execOp, ho, Instr.indexAt, asIntOf, e2, run_und ht, e3, Instr.sureAddr, hb.1, hb.2, run_size hsz, addr_add]
      · cases h
    · cases h
  · cases h
theorem FR.sl_inv {v : Value} {xs : List (List FV)} (h : FR M v (.sl xs)) : ∃ A cap, v = .slice A xs.length cap ∧ (xs ≠ [] → ∃ b o sz, A = some ⟨b, o, none⟩ ∧ xs.length ≤ cap ∧ (∀ (i : Nat) (cs : List FV), xs[i]? = some cs → cs.length = sz ∧
    ∀ (n : Nat), n = o + i * sz → VR M μ (.pointer (some ⟨b, n, none⟩)) (.fptr cs))) := by
  cases h with
  | slE A cap => exact ⟨A, cap, rfl, fun h => absurd rfl h⟩
  | sl b o cap sz u xs hne hc hl hM hR =>
    refine ⟨_, cap, rfl, fun _ => ⟨b, o, sz, rfl, hc, fun i cs e => ⟨hl i cs e, fun n hn => ?_⟩⟩⟩
    subst hn
    exact .fptr b _ (fun j => u i j) cs (fun j x e2 => hM i cs j x e e2) (fun j x e2 => hR i cs j x e e2)
theorem VR.row_cur {b g : Nat} {v : Value} (hs : Sim μ M w H) (h : VR M μ v (.row b g)) (hg : genOf H b = some g) : ∃ l, μ b = some l ∧ l.g = g ∧ v = l.val := by
  obtain ⟨l, h1, h2⟩ := h.row_inv
  exact ⟨l, h1, hs.gen' hg h1, h2 (hs.gen' hg h1)⟩
theorem op_ixa {x ix : Arg} {y iy : Operand} {o : Oper} {t e sz : Nat} (ho : o.op = .indexAddr t y iy) (hok : okA x y = true) (hoi : okA ix iy = true) (ht : P.underlying t = some (.slice e)) (hsz : (P.info? e).map (·.size) = some sz) (hs : Sim μ M w H) (he : EnvR M μ a env) {v : AV} {H' : Heap}
    (h : evOp (.ixa sz x ix) env H = some (v, H')) : Post μ M w H v H' ((execOp a.eval o).run P w) := by
  have hx := he.arg hok
  have hi := he.arg hoi
  simp only [evOp] at h
  split at h
  · rename_i i e1
    obtain ⟨k, e2⟩ := intOf_inv hi e1
    split at h
    · rename_i xs e3
      rw [e3] at hx
      obtain ⟨A, cap, e4, h4⟩ := FR.sl_inv (μ := μ) hx.d_inv
      split at h
      · rename_i h0
        split at h
        · rename_i cs e5
          split at h
          · rename_i hl
            simp only [Option.some.injEq, Prod.mk.injEq] at h
            obtain ⟨rfl, rfl⟩ := h
            have hlt := (List.getElem?_eq_some_iff.1 e5).1
            obtain ⟨b, p, sz', rfl, hc, hcs⟩ := h4 (fun e => by subst e; simp at hlt)
            obtain ⟨k1, k2⟩ := hcs _ cs e5
            have : sz' = sz := by omega
            subst this
            refine .pure hs (k2 _ rfl) ?_
            have hb : i < (xs.length : Int) := by omega
            simp [execOp, ho, Instr.indexAt, asIntOf, e2, run_und ht, e4, h0, hb, run_size hsz, addr_add]
          · cases h
        · cases h
      · cases h
    · rename_i b g e3
      rw [e3] at hx
      split at h
      · rename_i ty sz' el g' p e5
        split at h
        · rename_i hb
          obtain ⟨h0, h1, rfl, rfl⟩ := hb
          simp only [Option.some.injEq, Prod.mk.injEq] at h
          obtain ⟨rfl, rfl⟩ := h
          obtain ⟨l, k1, k2, k3⟩ := hx.row_cur hs (by simp [genOf, e5])
          obtain ⟨l', q1, q2, q3, q4, q5, q6, q7, q8⟩ := hs.blk b _ e5
          rw [k1] at q1
          cases q1
          rcases q8 with ⟨r1, rfl, _⟩ | ⟨B, vs, r1, r2, r3, r4, _⟩
          · simp at h1; omega
          · have hval : l.val = .slice (some ⟨B, 0, none⟩) el.length l.cap := by simp [Loc.val, r1, q3]
            refine .pure (v := .pointer (some ⟨B, i.toNat * sz, none⟩)) hs (.eptr _ b g i.toNat 0 l k1 (by omega) ⟨_, rfl⟩ fun _ => ⟨B, r1, by rw [q4]; rfl⟩) ?_
            simp [execOp, ho, Instr.indexAt, asIntOf, e2, run_und ht, k3, hval, h0, h1, run_size hsz, addr_add]
        · cases h
      · rename_i ty el g' p e5
        split at h
        · rename_i hb
          obtain ⟨h0, h1, rfl, rfl⟩ := hb
          simp only [Option.some.injEq, Prod.mk.injEq] at h
          obtain ⟨rfl, rfl⟩ := h
          obtain ⟨l, k1, k2, k3⟩ := hx.row_cur hs (by simp [genOf, e5])
          obtain ⟨l', q1, q2, q3, q4, q6, q7, q8⟩ := hs.blk b _ e5
          rw [k1] at q1
          cases q1
          rcases q8 with ⟨r1, rfl, _⟩ | ⟨B, vs, r1, r2, r3, r4, _⟩
          · simp at h1; omega
          · have hval : l.val = .slice (some ⟨B, 0, none⟩) el.length l.cap := by simp [Loc.val, r1, q3]
            refine .pure (v := .pointer (some ⟨B, i.toNat * 1, none⟩)) hs (.eptr _ b g i.toNat 0 l k1 (by omega) ⟨_, rfl⟩ fun _ => ⟨B, r1, by rw [q4]; rfl⟩) ?_
            simp [execOp, ho, Instr.indexAt, asIntOf, e2, run_und ht, k3, hval, h0, h1, run_size hsz, addr_add]
        · cases h
      · cases h
    · rename_i b g lo n e3
      rw [e3] at hx
      split at h
      · rename_i ty sz' el g' p e5
        split at h
        · rename_i hb
          obtain ⟨h0, h1, rfl, rfl⟩ := hb
          simp only [Option.some.injEq, Prod.mk.injEq] at h
          obtain ⟨rfl, rfl⟩ := h
          obtain ⟨l', q1, q2, q3, q4, q5, q6, q7, q8⟩ := hs.blk b _ e5
          generalize hav : a.eval y = vv at hx
          cases hx with
          | win _ _ _ _ _ l hl hgl hh hcur =>
            rw [q1] at hl; cases hl
            obtain ⟨w1, rfl⟩ := hcur q2
            rcases q8 with ⟨r1, rfl, _⟩ | ⟨B, vs, r1, r2, r3, r4, _⟩
            · simp at q3; omega
            · have hcap : ¬ l'.cap = lo := by omega
              rw [if_neg hcap, r1] at hav
              simp only [Option.map_some] at hav
              have hoff : lo * l'.sz + i.toNat * sz = (lo + i.toNat) * sz := by rw [q4, Nat.add_mul]
              refine .pure (v := .pointer (some ⟨B, (lo + i.toNat) * sz, none⟩)) hs (.eptr _ b g (lo + i.toNat) 0 l' q1 (by omega) ⟨_, rfl⟩ fun _ => ⟨B, r1, by rw [q4]; rfl⟩) ?_
              simp [execOp, ho, Instr.indexAt, asIntOf, e2, run_und ht, hav, h0, h1, run_size hsz, addr_add, hoff]
        · cases h
      · cases h
    · cases h
  · cases h
theorem VRs.list {vs : Array Value} {cs : List AV} (h : VRs M μ vs cs) {i : Nat} (hi : i < cs.length) : ∃ v, vs[i]? = some v ∧ VR M μ v (cs.getD i .undef) := by
  have hi' : i < vs.size := by rw [h.1]; exact hi
  exact ⟨vs[i], by simp [hi'], h.2 i _ _ (by simp [hi']) (by simp [List.getD_eq_getElem?_getD, hi])⟩
theorem VRs.cut {vs : Array Value} {cs : List AV} (h : VRs M μ vs cs) (off n : Nat) (hl : off + n ≤ cs.length) : VR M μ (.agg (vs.extract off (off + n))) (.agg ((cs.drop off).take n)) := by
  have h1 := h.1
  refine .agg _ _ (by simp; omega) fun i v x e1 e2 => ?_
  rw [List.getElem?_take] at e2
  split at e2
  · rw [List.getElem?_drop] at e2
    rw [Array.getElem?_extract] at e1
    split at e1
    · exact h.2 _ v x e1 e2
    · cases e1
  · cases e2
theorem op_part {x : Arg} {y : Operand} {o : Oper} {t f off n : Nat} {g : Bool} {fs : Array Field} {fd : Field} {d : TypeDesc} (ho : o.op = .field t y f) (hok : okA x y = true) (ht : P.underlying t = some (.struct fs)) (hf : fs[f]? = some fd)
    (hoff : fd.offset = off) (hsz : (P.info? fd.type).map (·.size) = some n) (hd : P.underlying fd.type = some d) (hg : isAggD d = g) (hs : Sim μ M w H) (he : EnvR M μ a env) {v : AV} {H' : Heap} (hn : g = false → 0 < n)
    (h : evOp (.part off n g x) env H = some (v, H')) : Post μ M w H v H' ((execOp a.eval o).run P w) := by
  have hx := he.arg hok
  simp only [evOp] at h
  split at h
  · rename_i cs e1
    rw [e1] at hx
    obtain ⟨vs, e2, hvs⟩ := hx.agg_inv
    split at h
    · rename_i hl
      simp only [Option.some.injEq, Prod.mk.injEq] at h
      obtain ⟨rfl, rfl⟩ := h
      subst hoff
      cases g with
      | true =>
        refine .pure hs (hvs.cut fd.offset n hl) ?_
        cases d <;> simp [isAggD] at hg <;> simp [execOp, ho, Instr.field, run_und ht, hf, asAgg, e2, part, isAgg, run_und hd, run_size hsz]
      | false =>
        obtain ⟨u, e3, hu⟩ := hvs.list (i := fd.offset) (by have := hn rfl; omega)
        refine .pure (v := u) hs (by simpa using hu) ?_
        cases d <;> simp [isAggD] at hg <;> simp [execOp, ho, Instr.field, run_und ht, hf, asAgg, e2, part, isAgg, run_und hd, e3]
    · cases h
  · cases h
end
end Go.Vm
/- Operations on strings and numbers. -/
namespace Go.Vm
open Go
section
variable {P : Program} {μ : Place} {M : Mem} {w : World} {H : Heap} {a : Act} {env : List AV}
theorem op_ixs {x ix : Arg} {y iy : Operand} {o : Oper} {t : Nat} (ho : o.op = .index t y iy) (hok : okA x y = true) (hoi : okA ix iy = true) (ht : P.underlying t = some .string) (hs : Sim μ M w H) (he : EnvR M μ a env) {v : AV} {H' : Heap}
    (h : evOp (.ixs x ix) env H = some (v, H')) : Post μ M w H v H' ((execOp a.eval o).run P w) := by
  have hx := he.arg hok
  have hi := he.arg hoi
  simp only [evOp] at h
  split at h
  · rename_i i s e1 e2
    obtain ⟨k, e3⟩ := intOf_inv hi e1
    rw [e2] at hx
    have e4 := hx.str_inv
    split at h
    · rename_i h0
      split at h
      · rename_i b e5
        simp only [Option.some.injEq, Prod.mk.injEq] at h
        obtain ⟨rfl, rfl⟩ := h
        refine .pure (v := .int .u8 b.toNat) hs (.d (.int _ _)) ?_
        simp [execOp, ho, Instr.index, asIntOf, e3, run_und ht, e4, h0, e5]
      · cases h
    · cases h
  · cases h
theorem op_ixv {x ix : Arg} {y iy : Operand} {o : Oper} {t e sz len : Nat} {g : Bool} {d : TypeDesc} (ho : o.op = .index t y iy) (hok : okA x y = true) (hoi : okA ix iy = true) (ht : P.underlying t = some (.array len e)) (hsz : (P.info? e).map (·.size) = some sz)
    (hd : P.underlying e = some d) (hg : isAggD d = g) (hn : g = false → 0 < sz) (hs : Sim μ M w H) (he : EnvR M μ a env) {v : AV} {H' : Heap}
    (h : evOp (.ixv sz len g x ix) env H = some (v, H')) : Post μ M w H v H' ((execOp a.eval o).run P w) := by
  have hx := he.arg hok
  have hi := he.arg hoi
  simp only [evOp] at h
  split at h
  · rename_i i cs e1 e2
    obtain ⟨k, e3⟩ := intOf_inv hi e1
    rw [e2] at hx
    obtain ⟨vs, e4, hvs⟩ := hx.agg_inv
    split at h
    · rename_i hb
      obtain ⟨h0, h1, h2⟩ := hb
      simp only [Option.some.injEq, Prod.mk.injEq] at h
      obtain ⟨rfl, rfl⟩ := h
      cases g with
      | true =>
        refine .pure hs (hvs.cut (i.toNat * sz) sz h2) ?_
        cases d <;> simp [isAggD] at hg <;> simp [execOp, ho, Instr.index, asIntOf, e3, run_und ht, e4, h0, h1, part, isAgg, run_und hd, run_size hsz]
      | false =>
        obtain ⟨u, e5, hu⟩ := hvs.list (i := i.toNat * sz) (by have := hn rfl; omega)
        refine .pure (v := u) hs (by simpa using hu) ?_
        cases d <;> simp [isAggD] at hg <;> simp [execOp, ho, Instr.index, asIntOf, e3, run_und ht, e4, h0, h1, part, isAgg, run_und hd, run_size hsz, e5]
    · cases h
  · cases h
theorem op_conv {x : Arg} {y : Operand} {o : Oper} {s t : Nat} {k k' : IntKind} (ho : o.op = .convert s t y) (hok : okA x y = true) (h1 : P.underlying s = some (.int k')) (h2 : P.underlying t = some (.int k)) (hs : Sim μ M w H) (he : EnvR M μ a env) {v : AV} {H' : Heap}
    (h : evOp (.conv k x) env H = some (v, H')) : Post μ M w H v H' ((execOp a.eval o).run P w) := by
  have hx := he.arg hok
  simp only [evOp] at h
  split at h
  · rename_i k2 n e
    simp only [Option.some.injEq, Prod.mk.injEq] at h
    obtain ⟨rfl, rfl⟩ := h
    rw [e] at hx
    refine .pure (v := .int k (k.wrap n)) hs (.d (.int _ _)) ?_
    simp [execOp, ho, convert, run_und h1, run_und h2, hx.int_inv, Conv.intToInt]
  · cases h
theorem op_i2f {x : Arg} {y : Operand} {o : Oper} {s t : Nat} {k' : IntKind} {k : FloatKind} (ho : o.op = .convert s t y) (hok : okA x y = true) (h1 : P.underlying s = some (.int k')) (h2 : P.underlying t = some (.float k)) (hs : Sim μ M w H) (he : EnvR M μ a env) {v : AV} {H' : Heap}
    (h : evOp (.i2f k x) env H = some (v, H')) : Post μ M w H v H' ((execOp a.eval o).run P w) := by
  have hx := he.arg hok
  simp only [evOp] at h
  split at h
  · rename_i k2 n e
    simp only [Option.some.injEq, Prod.mk.injEq] at h
    obtain ⟨rfl, rfl⟩ := h
    rw [e] at hx
    refine .pure (v := .float k (k.nearest n)) hs (.d (.float _ _)) ?_
    simp [execOp, ho, convert, run_und h1, run_und h2, hx.int_inv, Conv.intToFloat]
  · cases h
theorem op_lenA {n : Nat} {y : Operand} {o : Oper} {t : Nat} (ho : o.op = .call { callee := .builtin .len, args := #[y], argTypes := #[t] }) (ht : (∃ e, P.underlying t = some (.array n e)) ∨ ∃ p e, P.underlying t = some (.pointer p) ∧ P.underlying p = some (.array n e)) (hs : Sim μ M w H) {v : AV} {H' : Heap}
    (h : evOp (.lenA n) env H = some (v, H')) : Post μ M w H v H' ((execOp a.eval o).run P w) := by
  simp only [evOp, Option.some.injEq, Prod.mk.injEq] at h
  obtain ⟨rfl, rfl⟩ := h
  refine .pure (v := .int .i64 n) hs (.d (.int _ _)) ?_
  rcases ht with ⟨e, ht⟩ | ⟨p, e, ht, hp⟩
  · simp [execOp, ho, resolve, invoke, builtin, Builtin.len_, run_und ht, goInt]
  · simp [execOp, ho, resolve, invoke, builtin, Builtin.len_, run_und ht, run_und hp, goInt]
theorem lenOf_slice (hs : Sim μ M w H) {v : Value} {x : AV} (hv : VR M μ v x) {n : Nat} (h : lenOf x H = some n) : ∃ A c, v = .slice A n c := by
  unfold lenOf at h
  split at h
  · cases h
    obtain ⟨A, c, e, _⟩ := FR.sl_inv (μ := μ) hv.d_inv
    exact ⟨A, c, e⟩
  · cases h
    exact ⟨none, 0, hv.nil_inv⟩
  · cases h
    obtain ⟨A, e⟩ := hv.emp_inv
    exact ⟨A, 0, e⟩
  · rename_i b g
    split at h
    · rename_i ty sz el g' p e
      split at h
      · rename_i hg
        subst hg
        cases h
        obtain ⟨l, k1, k2, k3⟩ := hv.row_cur hs (by simp [genOf, e])
        obtain ⟨l', q1, q2, q3, _⟩ := hs.blk b _ e
        rw [k1] at q1
        cases q1
        exact ⟨_, _, by rw [k3, Loc.val, q3]⟩
      · cases h
    · rename_i ty el g' p e
      split at h
      · rename_i hg
        subst hg
        cases h
        obtain ⟨l, k1, k2, k3⟩ := hv.row_cur hs (by simp [genOf, e])
        obtain ⟨l', q1, q2, q3, _⟩ := hs.blk b _ e
        rw [k1] at q1
        cases q1
        exact ⟨_, _, by rw [k3, Loc.val, q3]⟩
      · cases h
    · cases h
  · rename_i b g lo n'
    split at h
    · rename_i ty sz el g' p e
      split at h
      · rename_i hg
        subst hg
        cases h
        obtain ⟨l', q1, q2, q3, _⟩ := hs.blk b _ e
        cases hv with
        | win _ _ _ _ _ l hl hgl h1 h =>
          rw [q1] at hl; cases hl
          exact ⟨_, _, (h q2).2⟩
      · cases h
    · cases h
  · cases h
theorem op_len {x : Arg} {y : Operand} {o : Oper} {t e : Nat} (ho : o.op = .call { callee := .builtin .len, args := #[y], argTypes := #[t] }) (hok : okA x y = true) (ht : P.underlying t = some (.slice e)) (hs : Sim μ M w H) (he : EnvR M μ a env) {v : AV} {H' : Heap}
    (h : evOp (.len x) env H = some (v, H')) : Post μ M w H v H' ((execOp a.eval o).run P w) := by
  have hx := he.arg hok
  simp only [evOp] at h
  split at h
  · rename_i n e
    simp only [Option.some.injEq, Prod.mk.injEq] at h
    obtain ⟨rfl, rfl⟩ := h
    refine .pure (v := .int .i64 n) hs (.d (.int _ _)) ?_
    obtain ⟨A, c, e3⟩ := lenOf_slice hs hx e
    simp [execOp, ho, resolve, invoke, builtin, Builtin.len_, run_und ht, goInt, e3]
  · cases h
theorem op_lenS {x : Arg} {y : Operand} {o : Oper} {t : Nat} (ho : o.op = .call { callee := .builtin .len, args := #[y], argTypes := #[t] }) (hok : okA x y = true) (ht : P.underlying t = some .string) (hs : Sim μ M w H) (he : EnvR M μ a env) {v : AV} {H' : Heap}
    (h : evOp (.lenS x) env H = some (v, H')) : Post μ M w H v H' ((execOp a.eval o).run P w) := by
  have hx := he.arg hok
  simp only [evOp] at h
  split at h
  · rename_i s e
    simp only [Option.some.injEq, Prod.mk.injEq] at h
    obtain ⟨rfl, rfl⟩ := h
    rw [e] at hx
    refine .pure (v := .int .i64 s.size) hs (.d (.int _ _)) ?_
    simp [execOp, ho, resolve, invoke, builtin, Builtin.len_, run_und ht, goInt, hx.str_inv]
  · cases h
theorem op_mkf {f : Nat} {caps : List Arg} {cs : Array Operand} {o : Oper} (ho : o.op = .makeFunc (.func f) #[] cs) (hl : cs.size = caps.length) (hok : ∀ (i : Nat) (x : Arg) (y : Operand), caps[i]? = some x → cs[i]? = some y → okA x y = true) (hs : Sim μ M w H) (he : EnvR M μ a env) {v : AV} {H' : Heap}
    (h : evOp (.mkf f caps) env H = some (v, H')) : Post μ M w H v H' ((execOp a.eval o).run P w) := by
  simp only [evOp, Option.some.injEq, Prod.mk.injEq] at h
  obtain ⟨rfl, rfl⟩ := h
  refine .pure (v := .func (.func f) #[] (cs.map a.eval)) hs (.func f _ _ (by simp [hl]) fun i v x e1 e2 => ?_) (by simp [execOp, ho, Instr.makeFunc])
  rw [Array.getElem?_map] at e1
  rw [List.getElem?_map] at e2
  cases h1 : cs[i]? with
  | none => rw [h1] at e1; cases e1
  | some y =>
    cases h2 : caps[i]? with
    | none => rw [h2] at e2; cases e2
    | some x =>
      rw [h1] at e1; rw [h2] at e2
      cases e1; cases e2
      exact he.arg (hok i x y h2 h1)
theorem op_mx {x x2 : Arg} {y y2 : Operand} {o : Oper} {ts : Array TypeId} (ho : o.op = .call { callee := .builtin .max, args := #[y, y2], argTypes := ts }) (h1 : okA x y = true) (h2 : okA x2 y2 = true) (hs : Sim μ M w H) (he : EnvR M μ a env) {v : AV} {H' : Heap}
    (h : evOp (.mx x x2) env H = some (v, H')) : Post μ M w H v H' ((execOp a.eval o).run P w) := by
  have hx := he.arg h1
  have hx2 := he.arg h2
  simp only [evOp] at h
  split at h
  · rename_i k m k2 n e1 e2
    simp only [Option.some.injEq, Prod.mk.injEq] at h
    obtain ⟨rfl, rfl⟩ := h
    rw [e1] at hx
    rw [e2] at hx2
    refine .pure (v := .int k (if n > m then n else m)) hs (.d (.int _ _)) ?_
    simp [execOp, ho, resolve, invoke, builtin, Builtin.max_, Builtin.max2, hx.int_inv, hx2.int_inv]
  · cases h
theorem op_mn {x x2 : Arg} {y y2 : Operand} {o : Oper} {ts : Array TypeId} (ho : o.op = .call { callee := .builtin .min, args := #[y, y2], argTypes := ts }) (h1 : okA x y = true) (h2 : okA x2 y2 = true) (hs : Sim μ M w H) (he : EnvR M μ a env) {v : AV} {H' : Heap}
    (h : evOp (.mn x x2) env H = some (v, H')) : Post μ M w H v H' ((execOp a.eval o).run P w) := by
  have hx := he.arg h1
  have hx2 := he.arg h2
  simp only [evOp] at h
  split at h
  · rename_i k m k2 n e1 e2
    simp only [Option.some.injEq, Prod.mk.injEq] at h
    obtain ⟨rfl, rfl⟩ := h
    rw [e1] at hx
    rw [e2] at hx2
    refine .pure (v := .int k (if n < m then n else m)) hs (.d (.int _ _)) ?_
    simp [execOp, ho, resolve, invoke, builtin, Builtin.min_, Builtin.min2, hx.int_inv, hx2.int_inv]
  · cases h
theorem op_un {x : Arg} {y : Operand} {o : Oper} {t : Nat} {u : UnOp} (ho : o.op = .unOp u t y) (hok : okA x y = true) (hs : Sim μ M w H) (he : EnvR M μ a env) {v : AV} {H' : Heap}
    (h : evOp (.un u x) env H = some (v, H')) : Post μ M w H v H' ((execOp a.eval o).run P w) := by
  have hx := he.arg hok
  simp only [evOp] at h
  split at h
  · rename_i z e
    rw [e] at hx
    simp only [Option.map_eq_some_iff, Prod.mk.injEq] at h
    obtain ⟨r, e1, rfl, rfl⟩ := h
    unfold un at e1
    split at e1
    · cases e1
      rename_i k n
      exact .pure (v := .int k (k.wrap (0 - n))) hs (.d (.int _ _)) (by simp [execOp, ho, Op.unary, hx.int_inv, Op.intArith])
    · rename_i k n
      simp only [bitsOf, Option.map_some, Option.some.injEq] at e1
      subst e1
      exact .pure (v := .int k _) hs (.d (.int _ _)) (by simp [execOp, ho, Op.unary, hx.int_inv, Op.intBits])
    · cases e1
      rename_i b
      exact .pure (v := .bool !b) hs (.d (.bool _)) (by simp [execOp, ho, Op.unary, hx.bool_inv])
    · cases e1
  · cases h
end
end Go.Vm
/- Operations of two numbers, strings, structs. -/
namespace Go.Vm
open Go
section
variable {P : Program} {μ : Place} {M : Mem} {w : World} {H : Heap} {a : Act} {env : List AV}
/-- the fields from the k-th on are whole numbers of one cell each -/
def flatF (P : Program) : Nat → List Field → Bool
  | _, [] => true
  | k, f :: fs => f.name != "_" && f.offset == k && (match P.underlying f.type with | some (.int _) => true | _ => false) && flatF P (k + 1) fs
def flatT (P : Program) (t : TypeId) : Bool := match P.underlying t with
  | some (.struct fs) => !P.stoodInHeld t && flatF P 0 fs.toList && !P.eqGuardType P.depth t
  | some (.array _ e) => (match P.underlying e with | some (.int _) => true | _ => false) && (P.info? e).map (·.size) == some 1 && !P.eqGuardType P.depth t
  | _ => false
theorem run_equalIn_int' (d : Nat) (t : TypeId) {k k' : IntKind} (x y : Int) (h : P.underlying t = some (.int k')) (w : World) : (Op.equalIn (d + 1) t (.int k x) (.int k y)).run P w = .ok (x == y) w := by
  simp [Op.equalIn, run_und h]
theorem toFVs_get : ∀ {cs : List AV} {xs : List FV}, toFVs cs = some xs → xs.length = cs.length ∧ ∀ (i : Nat) (x : FV), xs[i]? = some x → cs[i]? = some (.d x)
  | [], xs, h => by simp only [toFVs, Option.some.injEq] at h; subst h; simp
  | c :: cs, xs, h => by
    simp only [toFVs] at h
    split at h
    · rename_i x ys e1 e2
      cases h
      obtain ⟨h1, h2⟩ := toFVs_get e2
      refine ⟨by simp [h1], fun i z e => ?_⟩
      cases i with
      | zero =>
        simp at e; subst e
        cases c <;> simp [toFV] at e1
        subst e1; rfl
      | succ i => simpa using h2 i z (by simpa using e)
    · cases h
theorem VRs.fv {vs : Array Value} {cs : List AV} {xs : List FV} (h : VRs M μ vs cs) (e : toFVs cs = some xs) : vs.size = xs.length ∧ ∀ (i : Nat) (v : Value) (x : FV), vs[i]? = some v → xs[i]? = some x → FR M v x := by
  obtain ⟨h1, h2⟩ := toFVs_get e
  exact ⟨by rw [h.1, h1], fun i v x e1 e2 => (h.2 i v _ e1 (h2 i x e2)).d_inv⟩
theorem eqvL_cons {x y : FV} {xs ys : List FV} {r : Bool} (h : eqvL (x :: xs) (y :: ys) = some r) : (x.eqv y = some true ∧ eqvL xs ys = some r) ∨ (x.eqv y = some false ∧ r = false) := by
  simp only [eqvL] at h
  split at h
  · rename_i e; exact .inl ⟨e, h⟩
  · rename_i e; cases h; exact .inr ⟨e, rfl⟩
  · cases h
theorem run_eqFields (d : Nat) (us vs : Array Value) (xs ys : List FV) (hu : us.size = xs.length) (hv : vs.size = ys.length)
    (hux : ∀ (i : Nat) (v : Value) (x : FV), us[i]? = some v → xs[i]? = some x → FR M v x) (hvy : ∀ (i : Nat) (v : Value) (x : FV), vs[i]? = some v → ys[i]? = some x → FR M v x) :
    ∀ (fs : List Field) (k : Nat) (r : Bool) (w : World), flatF P k fs = true → k + fs.length = xs.length → eqvL (xs.drop k) (ys.drop k) = some r → (Op.eqFields (d + 1) us vs fs).run P w = .ok r w
  | [], k, r, w, _, hk, h => by
    simp at hk
    rw [List.drop_eq_nil_of_le (by omega)] at h
    cases hy : ys.drop k with
    | nil => rw [hy] at h; simp only [eqvL, Option.some.injEq] at h; subst h; simp [Op.eqFields]
    | cons b l => rw [hy] at h; simp [eqvL] at h
  | f :: fs, k, r, w, hf, hk, h => by
    simp only [flatF, Bool.and_eq_true] at hf
    obtain ⟨⟨⟨h1, h2⟩, h3⟩, h4⟩ := hf
    simp only [List.length_cons] at hk
    have hkx : k < xs.length := by omega
    rw [List.drop_eq_getElem_cons hkx] at h
    rcases Nat.lt_or_ge k ys.length with hky | hky
    · rw [List.drop_eq_getElem_cons hky] at h
      have e1 : us[k]? = some (us[k]'(by omega)) := by simp [show k < us.size by omega]
      have e2 : vs[k]? = some (vs[k]'(by omega)) := by simp [show k < vs.size by omega]
      have f1 := hux k _ xs[k] e1 (by simp [hkx])
      have f2 := hvy k _ ys[k] e2 (by simp [hky])
      cases hd : P.underlying f.type with
      | none => simp [hd] at h3
      | some dd =>
        cases dd <;> simp [hd] at h3
        simp only [beq_iff_eq] at h2
        have hp : ∀ (zs : Array Value) (z : Value), zs[k]? = some z → (part f.type zs f.offset).run P w = .ok z w := fun zs z e => by
          simp [part, isAgg, run_und hd, h2, e]
        have hn : f.name ≠ "_" := by simpa using h1
        simp only [Op.eqFields, hn, ne_eq, not_false_eq_true, if_true, Sem.run_bind, hp us _ e1, hp vs _ e2, Result.andThen_ok]
        have key : ∀ (u v : Value) (x y : FV) (q : Bool), FR M u x → FR M v y → x.eqv y = some q → (Op.equalIn (d + 1) f.type u v).run P w = .ok q w := fun u v x y q g1 g2 e => by
          unfold FV.eqv at e
          split at e
          · split at e
            · rename_i hkk; subst hkk
              cases g1; cases g2
              simp only [Option.some.injEq] at e
              rw [run_equalIn_int' d f.type _ _ hd, e]
            · cases e
          · cases e
        rcases eqvL_cons h with ⟨e, h⟩ | ⟨e, rfl⟩
        · rw [key _ _ _ _ _ f1 f2 e]
          simp only [Result.andThen_ok, Bool.not_true, Bool.false_eq_true, if_false]
          exact run_eqFields d us vs xs ys hu hv hux hvy fs (k + 1) r w h4 (by omega) h
        · rw [key _ _ _ _ _ f1 f2 e]
          simp
    · rw [List.drop_eq_nil_of_le hky] at h; simp [eqvL] at h
theorem eqvL_len : ∀ {xs ys : List FV} {r : Bool}, eqvL xs ys = some r → r = true → xs.length = ys.length
  | [], [], _, _, _ => rfl
  | x :: xs, y :: ys, r, h, hr => by
    rcases eqvL_cons h with ⟨_, h⟩ | ⟨_, rfl⟩
    · simp [eqvL_len h hr]
    · cases hr
  | [], _ :: _, _, h, _ => by simp [eqvL] at h
  | _ :: _, [], _, h, _ => by simp [eqvL] at h
theorem run_eqArr (d : Nat) (e : TypeId) {kk : IntKind} (he : P.underlying e = some (.int kk)) (hsz : (P.info? e).map (·.size) = some 1) (us vs : Array Value) (xs ys : List FV) (hu : us.size = xs.length) (hv : vs.size = ys.length)
    (hux : ∀ (i : Nat) (v : Value) (x : FV), us[i]? = some v → xs[i]? = some x → FR M v x) (hvy : ∀ (i : Nat) (v : Value) (x : FV), vs[i]? = some v → ys[i]? = some x → FR M v x) :
    ∀ (n k : Nat) (r : Bool) (w : World), k + n = xs.length → eqvL (xs.drop k) (ys.drop k) = some r →
      (forIn (m := Sem) (List.range' k n) ((none : Option Bool), ()) fun i _ => do
          let q ← Op.equalIn (d + 1) e (← part e us (i * 1)) (← part e vs (i * 1))
          if (!q) = true then pure (ForInStep.done (some false, ())) else pure (ForInStep.yield (none, ()))).run P w = .ok (if r then none else some false, ()) w
  | 0, k, r, w, hk, h => by
    rw [List.drop_eq_nil_of_le (by omega)] at h
    cases hy : ys.drop k with
    | nil => rw [hy] at h; simp only [eqvL, Option.some.injEq] at h; subst h; simp
    | cons b l => rw [hy] at h; simp [eqvL] at h
  | n + 1, k, r, w, hk, h => by
    have hkx : k < xs.length := by omega
    rw [List.drop_eq_getElem_cons hkx] at h
    rcases Nat.lt_or_ge k ys.length with hky | hky
    · rw [List.drop_eq_getElem_cons hky] at h
      have e1 : us[k]? = some (us[k]'(by omega)) := by simp [show k < us.size by omega]
      have e2 : vs[k]? = some (vs[k]'(by omega)) := by simp [show k < vs.size by omega]
      have f1 := hux k _ xs[k] e1 (by simp [hkx])
      have f2 := hvy k _ ys[k] e2 (by simp [hky])
      have hp : ∀ (zs : Array Value) (z : Value), zs[k]? = some z → (part e zs (k * 1)).run P w = .ok z w := fun zs z e => by
        simp [part, isAgg, run_und he, e]
      have key : ∀ (u v : Value) (x y : FV) (q : Bool), FR M u x → FR M v y → x.eqv y = some q → (Op.equalIn (d + 1) e u v).run P w = .ok q w := fun u v x y q g1 g2 e => by
        unfold FV.eqv at e
        split at e
        · split at e
          · rename_i hkk; subst hkk
            cases g1; cases g2
            simp only [Option.some.injEq] at e
            rw [run_equalIn_int' d _ _ _ he, e]
          · cases e
        · cases e
      rw [List.range'_succ]
      simp only [List.forIn_cons, Sem.run_bind, hp us _ e1, hp vs _ e2, Result.andThen_ok]
      rcases eqvL_cons h with ⟨e, h⟩ | ⟨e, rfl⟩
      · rw [key _ _ _ _ _ f1 f2 e]
        simp only [Result.andThen_ok, Bool.not_true, Bool.false_eq_true, if_false, Sem.run_pure]
        exact run_eqArr d _ he hsz us vs xs ys hu hv hux hvy n (k + 1) r w (by omega) h
      · rw [key _ _ _ _ _ f1 f2 e]
        simp
    · rw [List.drop_eq_nil_of_le hky] at h; simp [eqvL] at h
theorem run_equalIn_arr (d : Nat) {t e : TypeId} {l : Nat} {kk : IntKind} (ht : P.underlying t = some (.array l e)) (he : P.underlying e = some (.int kk)) (hsz : (P.info? e).map (·.size) = some 1) (us vs : Array Value) (xs ys : List FV) (hu : us.size = xs.length) (hv : vs.size = ys.length)
    (hux : ∀ (i : Nat) (v : Value) (x : FV), us[i]? = some v → xs[i]? = some x → FR M v x) (hvy : ∀ (i : Nat) (v : Value) (x : FV), vs[i]? = some v → ys[i]? = some x → FR M v x) (hl : xs.length = l) {r : Bool} (h : eqvL xs ys = some r) (w : World) :
    (Op.equalIn (d + 1 + 1) t (.agg us) (.agg vs)).run P w = .ok r w := by
  have := run_eqArr d e he hsz us vs xs ys hu hv hux hvy l 0 r w (by omega) (by simpa using h)
  rw [Op.equalIn]
  simp only [Sem.run_bind, run_und ht, Result.andThen_ok, run_size hsz]
  have e1 : (forIn (m := Sem) [:l] ((none : Option Bool), ()) fun i _ => do
          let q ← Op.equalIn (d + 1) e (← part e us (i * 1)) (← part e vs (i * 1))
          if (!q) = true then pure (ForInStep.done (some false, ())) else pure (ForInStep.yield (none, ()))) = (forIn (m := Sem) (List.range' 0 l) ((none : Option Bool), ()) fun i _ => do
          let q ← Op.equalIn (d + 1) e (← part e us (i * 1)) (← part e vs (i * 1))
          if (!q) = true then pure (ForInStep.done (some false, ())) else pure (ForInStep.yield (none, ()))) := by
    simp [Std.Legacy.Range.forIn_eq_forIn_range', Std.Legacy.Range.size]
  rw [e1, this]
  cases r <;> simp
theorem run_equal_flat {t : TypeId} {n : Nat} (ht : flatT P t = true) (hn : (match P.underlying t with | some (.struct fs) => fs.size | some (.array l _) => l | _ => 0) = n) (us vs : Array Value) (xs ys : List FV) (hu : us.size = xs.length) (hv : vs.size = ys.length)
    (hux : ∀ (i : Nat) (v : Value) (x : FV), us[i]? = some v → xs[i]? = some x → FR M v x) (hvy : ∀ (i : Nat) (v : Value) (x : FV), vs[i]? = some v → ys[i]? = some x → FR M v x) (hl : xs.length = n) {r : Bool} (h : eqvL xs ys = some r) (w : World) :
    (Op.equal t (.agg us) (.agg vs)).run P w = .ok r w := by
  unfold flatT at ht
  show (Op.equalIn (9999 + 1) t (.agg us) (.agg vs)).run P w = _
  split at ht
  · rename_i fs e
    simp only [Bool.and_eq_true, Bool.not_eq_true'] at ht
    have hf : P.fieldsOf t = fs := by simp [Program.fieldsOf, e]
    rw [run_equalIn_struct w 9999 t us vs (by rw [hf]; exact e) ht.1.1, hf]
    rw [e] at hn
    exact run_eqFields 9998 us vs xs ys hu hv hux hvy fs.toList 0 r w ht.1.2 (by simp at hn ⊢; omega) (by simpa using h)
  · rename_i l e' e
    simp only [Bool.and_eq_true, Bool.not_eq_true', beq_iff_eq] at ht
    rw [e] at hn
    simp only at hn
    subst hn
    cases hd : P.underlying e' with
    | none => simp [hd] at ht
    | some dd =>
      cases dd <;> simp [hd] at ht
      exact run_equalIn_arr 9998 e hd (by simpa using ht.1) us vs xs ys hu hv hux hvy hl h w
  · cases ht
theorem op_eqA {x x2 : Arg} {y y2 : Operand} {o : Oper} {t n : Nat} {q : Bool} {yT : TypeId} (ho : o.op = .binOp (if q then .neq else .eql) t y y2 yT) (h1 : okA x y = true) (h2 : okA x2 y2 = true) (ht : flatT P t = true)
    (hn : (match P.underlying t with | some (.struct fs) => fs.size | some (.array l _) => l | _ => 0) = n) (hs : Sim μ M w H) (he : EnvR M μ a env) {v : AV} {H' : Heap}
    (h : evOp (.eqA n q x x2) env H = some (v, H')) : Post μ M w H v H' ((execOp a.eval o).run P w) := by
  have hx := he.arg h1
  have hx2 := he.arg h2
  simp only [evOp, Option.map_eq_some_iff, Prod.mk.injEq] at h
  obtain ⟨z, e, rfl, rfl⟩ := h
  unfold eqA at e
  split at e
  · rename_i A B e1 e2
    rw [e1] at hx
    rw [e2] at hx2
    obtain ⟨us, f1, g1⟩ := hx.agg_inv
    obtain ⟨vs, f2, g2⟩ := hx2.agg_inv
    split at e
    · rename_i xs ys e3 e4
      split at e
      · rename_i hl
        simp only [Option.map_eq_some_iff] at e
        obtain ⟨r, e5, rfl⟩ := e
        obtain ⟨k1, k2⟩ := g1.fv e3
        obtain ⟨k3, k4⟩ := g2.fv e4
        have hr := run_equal_flat ht hn us vs xs ys k1 k3 k2 k4 hl e5 w
        have hg : P.eqGuardType P.depth t = false := by
          unfold flatT at ht
          split at ht <;> simp at ht <;> simp [ht]
        refine .pure (v := .bool (if q then !r else r)) hs (.d (.bool _)) ?_
        cases q <;> simp at ho <;> simp [execOp, ho, eqGuard, f1, f2, hg, binOp, hr]
      · cases e
    · cases e
  · cases e
end
end Go.Vm
/- Operations of two plain values. -/
namespace Go.Vm
open Go
section
variable {P : Program} {μ : Place} {M : Mem} {w : World} {H : Heap} {a : Act} {env : List AV}
theorem run_equal_bool {t : TypeId} (h : P.underlying t = some .bool) (x y : Bool) (w : World) : (Op.equal t (.bool x) (.bool y)).run P w = .ok (x == y) w := by
  show (Op.equalIn (9999 + 1) t _ _).run P w = _
  rw [Op.equalIn]
  simp [run_und h]
/-- may the operation stand at this type -/
def okBin (P : Program) (o : BinOp) (t : TypeId) : Bool := match P.underlying t with
  | some (.int _) => true
  | some .string => true
  | some (.float _) => o == .quo
  | some .bool => o == .eql || o == .neq
  | _ => false
theorem run_binF {o : BinOp} {t : TypeId} (hok : okBin P o t = true) {u v : Value} {x y z : FV} (hu : FR M u x) (hv : FR M v y) (h : binF o x y = some z) (xo yo : Operand) (w : World) :
    ∃ r, (do eqGuard o t xo yo u v; binOp o t u v : Sem Value).run P w = .ok r w ∧ FR M r z := by
  unfold binF at h
  split at h
  · cases hu; cases hv
    split at h
    · cases h
    · cases h
      rename_i hn
      exact ⟨_, by simp [eqGuard, binOp, Op.shift, hn], .int _ _⟩
  · cases hu; cases hv
    split at h
    · cases h
    · cases h
      rename_i hn
      exact ⟨_, by simp [eqGuard, binOp, Op.shift, hn], .int _ _⟩
  · rename_i k m k' n hs1 hs2
    cases hu; cases hv
    split at h
    · cases h
    · rename_i hk
      have hk : k = k' := by simpa using hk
      subst hk
      cases o <;> (try dsimp only at h) <;> (try simp only [Option.some.injEq] at h)
      case add => subst h; exact ⟨_, by simp [eqGuard, binOp, Op.intArith], .int _ _⟩
      case sub => subst h; exact ⟨_, by simp [eqGuard, binOp, Op.intArith], .int _ _⟩
      case mul => subst h; exact ⟨_, by simp [eqGuard, binOp, Op.intArith], .int _ _⟩
      case quo =>
        split at h
        · cases h
        · cases h; rename_i hn; exact ⟨_, by simp [eqGuard, binOp, Op.intDiv, hn], .int _ _⟩
      case rem =>
        split at h
        · cases h
        · cases h; rename_i hn; exact ⟨_, by simp [eqGuard, binOp, Op.intDiv, hn], .int _ _⟩
      case eql => subst h; exact ⟨_, by simp [eqGuard, binOp, Op.intCmp], .bool _⟩
      case neq => subst h; exact ⟨_, by simp [eqGuard, binOp, Op.intCmp], .bool _⟩
      case lss => subst h; exact ⟨_, by simp [eqGuard, binOp, Op.intCmp], .bool _⟩
      case leq => subst h; exact ⟨_, by simp [eqGuard, binOp, Op.intCmp], .bool _⟩
      case gtr => subst h; exact ⟨_, by simp [eqGuard, binOp, Op.intCmp], .bool _⟩
      case geq => subst h; exact ⟨_, by simp [eqGuard, binOp, Op.intCmp], .bool _⟩
      case and => simp [bitsOf] at h; subst h; exact ⟨_, by simp [eqGuard, binOp, Op.intBits], .int _ _⟩
      case or => simp [bitsOf] at h; subst h; exact ⟨_, by simp [eqGuard, binOp, Op.intBits], .int _ _⟩
      case xor => simp [bitsOf] at h; subst h; exact ⟨_, by simp [eqGuard, binOp, Op.intBits], .int _ _⟩
      case andNot => simp [bitsOf] at h; subst h; exact ⟨_, by simp [eqGuard, binOp, Op.intBits], .int _ _⟩
      case shl => exact (hs1 rfl).elim
      case shr => exact (hs2 rfl).elim
  · cases hu; cases hv
    split at h
    · rename_i hk; subst hk
      simp only [Option.map_eq_some_iff] at h
      obtain ⟨r, e, rfl⟩ := h
      exact ⟨_, by simp [eqGuard, binOp, Op.floatArith, e], .float _ _⟩
    · cases h
  · cases hu; cases hv
    split at h
    · cases h
      rename_i s1 s2 hn
      refine ⟨_, ?_, .str _⟩
      have : ¬ (((s1.size + s2.size : Nat) : Int) > IntKind.i64.max) := by
        simp only [IntKind.max, IntKind.bits, IntKind.signed]; simp; omega
      simp only [eqGuard, binOp, Op.stringOp, this]
      simp
    · cases h
  · cases hu; cases hv; cases h
    exact ⟨_, by simp [eqGuard, binOp, Op.stringOp], .bool _⟩
  · cases hu; cases hv; cases h
    exact ⟨_, by simp [eqGuard, binOp, Op.stringOp], .bool _⟩
  · cases h
theorem op_bin {x x2 : Arg} {y y2 : Operand} {o : Oper} {t : Nat} {b : BinOp} {yT : TypeId} (ho : o.op = .binOp b t y y2 yT) (h1 : okA x y = true) (h2 : okA x2 y2 = true) (ht : okBin P b t = true) (hs : Sim μ M w H) (he : EnvR M μ a env) {v : AV} {H' : Heap}
    (h : evOp (.bin b x x2) env H = some (v, H')) : Post μ M w H v H' ((execOp a.eval o).run P w) := by
  have hx := he.arg h1
  have hx2 := he.arg h2
  simp only [evOp, Option.map_eq_some_iff, Prod.mk.injEq] at h
  obtain ⟨z, e, rfl, rfl⟩ := h
  unfold bin at e
  split at e
  · rename_i p q e1 e2
    rw [e1] at hx
    rw [e2] at hx2
    simp only [Option.map_eq_some_iff] at e
    obtain ⟨r, e3, rfl⟩ := e
    obtain ⟨r', k1, k2⟩ := run_binF ht hx.d_inv hx2.d_inv e3 y y2 w
    refine .pure (v := r') hs (.d k2) ?_
    simp only [execOp, ho]
    rw [Sem.run_bind, k1]
    simp
  · cases e
theorem op_eqB {x x2 : Arg} {y y2 : Operand} {o : Oper} {t : Nat} {q : Bool} {yT : TypeId} (ho : o.op = .binOp (if q then .neq else .eql) t y y2 yT) (h1 : okA x y = true) (h2 : okA x2 y2 = true) (ht : P.underlying t = some .bool) (hs : Sim μ M w H) (he : EnvR M μ a env) {v : AV} {H' : Heap}
    (h : evOp (.eqB q x x2) env H = some (v, H')) : Post μ M w H v H' ((execOp a.eval o).run P w) := by
  have hx := he.arg h1
  have hx2 := he.arg h2
  simp only [evOp] at h
  split at h
  · rename_i m n e1 e2
    simp only [Option.some.injEq, Prod.mk.injEq] at h
    obtain ⟨rfl, rfl⟩ := h
    rw [e1] at hx
    rw [e2] at hx2
    refine .pure (v := .bool (if q then !(m == n) else m == n)) hs (.d (.bool _)) ?_
    cases q <;> simp at ho <;> simp [execOp, ho, eqGuard, binOp, hx.bool_inv, hx2.bool_inv, run_equal_bool ht]
  · cases h
end
end Go.Vm
/- Loads; new variables; rows of none. -/
namespace Go.Vm
open Go
section
variable {P : Program} {μ : Place} {M : Mem} {w : World} {H : Heap} {a : Act} {env : List AV}
theorem run_loadFrom (b o : Nat) (w : World) : ∀ (cs : List Value) (i : Nat) (acc : Array Value), (∀ (j : Nat) (v : Value), cs[j]? = some v → w.cell? ⟨b, o + (i + j), none⟩ = some v) →
    (loadCellsFrom ⟨b, o, none⟩ i cs.length acc).run P w = .ok (acc ++ cs.toArray) w
  | [], i, acc, _ => by simp [loadCellsFrom]
  | c :: cs, i, acc, h => by
    have h0 := h 0 c rfl
    have := run_loadFrom b o w cs (i + 1) (acc.push c) fun j v e => by
      have := h (j + 1) v (by simpa using e)
      rw [show o + (i + 1 + j) = o + (i + (j + 1)) by omega]; exact this
    simp only [loadCellsFrom, List.length_cons, Sem.run_bind, addr_add, run_load]
    simp only [Nat.add_zero] at h0
    rw [h0]
    simp only [Result.andThen_ok, this]
    simp
theorem run_loadCells (b o : Nat) (w : World) (cs : List Value) (h : ∀ (j : Nat) (v : Value), cs[j]? = some v → w.cell? ⟨b, o + j, none⟩ = some v) :
    (loadCells ⟨b, o, none⟩ cs.length).run P w = .ok cs.toArray w := by
  have := run_loadFrom (P := P) b o w cs 0 #[] (fun j v e => by simpa using h j v e)
  simpa [loadCells] using this
theorem run_isAgg {t : TypeId} {d : TypeDesc} (hd : P.underlying t = some d) (w : World) : (isAgg t).run P w = .ok (isAggD d) w := by
  simp only [isAgg, Sem.run_bind, run_und hd, Result.andThen_ok]
  cases d <;> simp [isAggD]
theorem run_loadVar' {t : TypeId} {d : TypeDesc} (hd : P.underlying t = some d) (b o : Nat) (w : World) (cs : List Value) (hsz : (P.info? t).map (·.size) = some cs.length) (h : ∀ (j : Nat) (v : Value), cs[j]? = some v → w.cell? ⟨b, o + j, none⟩ = some v)
    {c0 : Value} (h0 : isAggD d = false → cs[0]? = some c0) : (loadVar t ⟨b, o, none⟩).run P w = .ok (if isAggD d then .agg cs.toArray else c0) w := by
  simp only [loadVar, Sem.run_bind, run_isAgg hd, Result.andThen_ok]
  cases hg : isAggD d with
  | true => simp [run_size hsz, run_loadCells b o w cs h]
  | false =>
    have := h 0 c0 (h0 hg)
    simp only [Nat.add_zero] at this
    simp [this]
theorem block_cell {B : Nat} {vs : Array Value} {ty : TypeId} {fr : Nat × Nat} (h : w.heap[B]? = some (.cells vs ty fr)) (o : Nat) : w.cell? ⟨B, o, none⟩ = vs[o]? := by simp [World.cell?, h]
theorem seg_get (vs : Array Value) (j n : Nat) (hn : j + n ≤ vs.size) : ((vs.toList.drop j).take n).length = n ∧ ∀ (i : Nat) (v : Value), ((vs.toList.drop j).take n)[i]? = some v → i < n ∧ vs[j + i]? = some v := by
  refine ⟨by simp; omega, fun i v e => ?_⟩
  rw [List.getElem?_take] at e
  split at e
  · rename_i hi
    rw [List.getElem?_drop] at e
    exact ⟨hi, by simpa using e⟩
  · cases e
theorem FR_map_agg (vs : List Value) (xs : List FV) (hl : vs.length = xs.length) (h : ∀ (i : Nat) (v : Value) (x : FV), vs[i]? = some v → xs[i]? = some x → FR M v x) : VR M μ (.agg vs.toArray) (.agg (xs.map .d)) := by
  refine .agg _ _ (by simp [hl]) fun i v x e1 e2 => ?_
  rw [List.getElem?_map] at e2
  cases hx : xs[i]? with
  | none => rw [hx] at e2; cases e2
  | some y => rw [hx] at e2; cases e2; exact .d (h i v y (by simpa using e1) hx)
theorem op_load {x : Arg} {y : Operand} {o : Oper} {t n : Nat} {g : Bool} {d : TypeDesc} (ho : o.op = .load t y) (hok : okA x y = true) (hd : P.underlying t = some d) (hg : isAggD d = g) (hsz : (P.info? t).map (·.size) = some n) (hn : g = false → 0 < n) (hs : Sim μ M w H) (he : EnvR M μ a env) {v : AV} {H' : Heap}
    (h : evOp (.load n g x) env H = some (v, H')) : Post μ M w H v H' ((execOp a.eval o).run P w) := by
  have hx := he.arg hok
  subst hg
  simp only [evOp] at h
  -- what the machine loads from cells that are known
  have go : ∀ (b p : Nat) (cs : List Value), cs.length = n → (∀ (j : Nat) (v : Value), cs[j]? = some v → w.cell? ⟨b, p + j, none⟩ = some v) → a.eval y = .pointer (some ⟨b, p, none⟩) → ∀ c0, (isAggD d = false → cs[0]? = some c0) →
      (execOp a.eval o).run P w = .ok (.value (if isAggD d then .agg cs.toArray else c0)) w := fun b p cs hl hc e c0 h0 => by
    subst hl
    have := run_loadVar' hd b p w cs hsz hc h0
    simp [execOp, ho, Instr.loadAt, e, Instr.sureAddr, this]
  split at h
  · rename_i b j e
    rw [e] at hx
    split at h
    · rename_i ty cs e2
      split at h
      · rename_i hl
        simp only [Option.some.injEq, Prod.mk.injEq] at h
        obtain ⟨rfl, rfl⟩ := h
        obtain ⟨l, B, vs, h1, h2, h3, h4, h5, h6⟩ := hs.blk b _ e2
        have : ∃ B, l.ad = some B ∧ a.eval y = .pointer (some ⟨B, j, none⟩) := by
          generalize a.eval y = u at hx
          cases hx with | bptr u b j l' k1 _ k2 => rw [h1] at k1; cases k1; exact k2 h2
        obtain ⟨B', k1, k2⟩ := this
        rw [h3] at k1
        cases k1
        have hvs : j + n ≤ vs.size := by rw [h5.1]; exact hl
        obtain ⟨s1, s2⟩ := seg_get vs j n hvs
        have hrun := go B j _ s1 (fun i u e => by rw [block_cell h4]; exact (s2 i u e).2) k2 ((vs[j]?).getD undef) fun hf => by
          have := hn hf
          rw [List.getElem?_take, if_pos this, List.getElem?_drop]
          simp [show j < vs.size by omega]
        cases hgd : isAggD d with
        | true =>
          rw [hgd] at hrun
          have := h5.cut j n hl
          refine .pure hs this (hrun.trans ?_)
          simp only [if_true]
          congr 3
          apply Array.ext'
          simp [Array.toList_extract, List.extract]
        | false =>
          rw [hgd] at hrun
          obtain ⟨u, f1, f2⟩ := h5.list (i := j) (by have := hn hgd; omega)
          refine .pure (v := u) hs (by simpa using f2) (hrun.trans ?_)
          simp [f1]
      · cases h
    · cases h
  · rename_i b q i j e
    rw [e] at hx
    split at h
    · rename_i ty sz el g' p e2
      split at h
      · rename_i cs e3
        split at h
        · rename_i hl
          obtain ⟨rfl, hl⟩ := hl
          simp only [Option.some.injEq, Prod.mk.injEq] at h
          obtain ⟨rfl, rfl⟩ := h
          obtain ⟨l, h1, h2, h3, h4, h5, h6, h7, h8⟩ := hs.blk b _ e2
          have hi := (List.getElem?_eq_some_iff.1 e3).1
          rcases h8 with ⟨_, rfl, _⟩ | ⟨B, vs, a1, a2, a3, a4, a5, a6, a7⟩
          · simp at hi
          have : ∃ B, l.ad = some B ∧ a.eval y = .pointer (some ⟨B, i * l.sz + j, none⟩) := by
            generalize a.eval y = u at hx
            cases hx with | eptr u b g i j l' k1 _ _ k2 => rw [h1] at k1; cases k1; exact k2 h2
          obtain ⟨B', k1, k2⟩ := this
          rw [a1] at k1
          cases k1
          rw [h4] at k2
          have hcs := a5 i cs e3
          have hle : i * sz + sz ≤ vs.size := by
            rw [a4]
            calc i * sz + sz = (i + 1) * sz := by rw [Nat.add_mul, Nat.one_mul]
              _ ≤ l.cap * sz := Nat.mul_le_mul_right _ (by omega)
          have hvs : i * sz + j + n ≤ vs.size := by omega
          obtain ⟨s1, s2⟩ := seg_get vs (i * sz + j) n hvs
          have hrun := go B (i * sz + j) _ s1 (fun m u e => by rw [block_cell a2]; exact (s2 m u e).2) k2 ((vs[i * sz + j]?).getD undef) fun hf => by
            have := hn hf
            rw [List.getElem?_take, if_pos this, List.getElem?_drop]
            simp [show i * sz + j < vs.size by omega]
          cases hgd : isAggD d with
          | true =>
            rw [hgd] at hrun
            refine .pure hs (FR_map_agg _ _ (by rw [s1]; simp; omega) fun m u x f1 f2 => ?_) (hrun.trans (by simp))
            obtain ⟨m1, m2⟩ := s2 m u f1
            rw [List.getElem?_take, if_pos m1, List.getElem?_drop] at f2
            exact a6 i cs (j + m) x u e3 f2 (by rw [← Nat.add_assoc]; exact m2)
          | false =>
            rw [hgd] at hrun
            have hj : j < cs.length := by have := hn hgd; omega
            have f1 : vs[i * sz + j]? = some (vs[i * sz + j]'(by omega)) := by simp [show i * sz + j < vs.size by omega]
            refine .pure (v := vs[i * sz + j]'(by omega)) hs (.d ?_) (hrun.trans (by simp [f1]))
            exact a6 i cs j _ _ e3 (by simp [List.getD_eq_getElem?_getD, hj]) f1
        · cases h
      · cases h
    · rename_i ty el g' p e2
      split at h
      · rename_i x0 e3
        split at h
        · rename_i hl
          obtain ⟨rfl, rfl, rfl, hgd⟩ := hl
          simp only [Option.some.injEq, Prod.mk.injEq] at h
          obtain ⟨rfl, rfl⟩ := h
          obtain ⟨l, h1, h2, h3, h4, h6, h7, h8⟩ := hs.blk b _ e2
          have hi := (List.getElem?_eq_some_iff.1 e3).1
          rcases h8 with ⟨_, rfl, _⟩ | ⟨B, vs, a1, a2, a3, a4, a6, a7⟩
          · simp at hi
          have : ∃ B, l.ad = some B ∧ a.eval y = .pointer (some ⟨B, i * l.sz + 0, none⟩) := by
            generalize a.eval y = u at hx
            cases hx with | eptr u b g i j l' k1 _ _ k2 => rw [h1] at k1; cases k1; exact k2 h2
          obtain ⟨B', k1, k2⟩ := this
          rw [a1] at k1
          cases k1
          rw [h4] at k2
          have f1 : vs[i]? = some (vs[i]'(by omega)) := by simp [show i < vs.size by omega]
          have hrun := go B (i * 1 + 0) [vs[i]'(by omega)] rfl (fun m u e => by
            cases m with
            | zero => simp at e; subst e; rw [block_cell a2]; simp [show i < vs.size by omega]
            | succ m => simp at e) k2 (vs[i]'(by omega)) fun _ => rfl
          rw [hgd] at hrun
          exact .pure hs (a6 i x0 _ e3 f1) (hrun.trans (by simp))
        · cases h
      · cases h
    · cases h
  · rename_i cs e
    rw [e] at hx
    split at h
    · rename_i hl
      simp only [Option.some.injEq, Prod.mk.injEq] at h
      obtain ⟨rfl, rfl⟩ := h
      have : ∃ (b p : Nat) (u : Nat → Value), a.eval y = .pointer (some ⟨b, p, none⟩) ∧ (∀ (j : Nat) (x : FV), cs[j]? = some x → M b (p + j) = some (u j)) ∧ ∀ (j : Nat) (x : FV), cs[j]? = some x → FR M (u j) x := by
        generalize a.eval y = u at hx
        cases hx with | fptr b p u cs k1 k2 => exact ⟨b, p, u, rfl, k1, k2⟩
      obtain ⟨b, p, u, k0, k1, k2⟩ := this
      have hrun := go b p ((List.range n).map u) (by simp) (fun j v e => by
        rw [List.getElem?_map] at e
        by_cases hj : j < n
        · rw [List.getElem?_range hj] at e
          simp at e
          subst e
          exact hs.mem _ _ _ (k1 j cs[j] (by simp [show j < cs.length by omega]))
        · rw [List.getElem?_eq_none (by simpa using hj)] at e; cases e) k0 (u 0) fun hf => by simp [hn hf]
      cases hgd : isAggD d with
      | true =>
        rw [hgd] at hrun
        refine .pure (v := .agg ((List.range n).map u).toArray) hs (FR_map_agg _ _ (by simp; omega) fun m z x f1 f2 => ?_) (hrun.trans (by simp))
        rw [List.getElem?_map] at f1
        rw [List.getElem?_take] at f2
        split at f2
        · rename_i hm
          rw [List.getElem?_range hm] at f1
          simp at f1
          subst f1
          exact k2 m x f2
        · cases f2
      | false =>
        rw [hgd] at hrun
        have h0 : 0 < cs.length := by have := hn hgd; omega
        exact .pure (v := u 0) hs (.d (k2 0 _ (by simp [List.getD_eq_getElem?_getD, h0]))) (hrun.trans (by simp))
    · cases h
  · cases h
end
end Go.Vm
/- New blocks. -/
namespace Go.Vm
open Go
section
variable {P : Program} {μ : Place} {M : Mem} {w : World} {H : Heap} {a : Act} {env : List AV}
def setLoc (μ : Place) (b : Nat) (l : Loc) : Place := fun x => if x = b then some l else μ x
theorem setLoc_same (μ : Place) (b : Nat) (l : Loc) : setLoc μ b l b = some l := by simp [setLoc]
theorem setLoc_other (μ : Place) {b x : Nat} (l : Loc) (h : x ≠ b) : setLoc μ b l x = μ x := by simp [setLoc, h]
theorem Ext.new (hs : Sim μ M w H) (l : Loc) : Ext M μ M (setLoc μ H.length l) :=
  ⟨fun _ _ _ h => h, fun b l' h => ⟨l', by
    have : b ≠ H.length := fun e => by rw [e, hs.dom _ (Nat.le_refl _)] at h; cases h
    rw [setLoc_other _ _ this]; exact h, .inl rfl⟩⟩
theorem Sim.new {w' : World} (hs : Sim μ M w H) (l : Loc) (k : Blk) (hl : ∀ B, l.ad = some B → w.heap.size ≤ B)
    (hos : w'.os = w.os) (ht : w'.tape = w.tape) (ho : w'.output = w.output) (hsz : w.heap.size ≤ w'.heap.size) (hbl : ∀ B, B < w.heap.size → w'.heap[B]? = w.heap[B]?)
    (hb : BlkOK (setLoc μ H.length l) M w' H.length k) : Sim (setLoc μ H.length l) M w' (H ++ [k]) ∧ Nx μ M w H (setLoc μ H.length l) M w' (H ++ [k]) := by
  have he := Ext.new hs l
  have hB : ∀ l0 B, setLoc μ H.length l H.length = some l0 → l0.ad = some B → (∃ l1, μ H.length = some l1 ∧ l1.ad = some B) ∨ w.heap.size ≤ B := fun l0 B e1 e2 => by
    rw [setLoc_same] at e1; cases e1; exact .inr (hl B e2)
  have hμ : ∀ x, x ≠ H.length → setLoc μ H.length l x = μ x := fun x h => setLoc_other _ _ h
  refine ⟨hs.turn H.length he (fun x hx => ?_) (fun b o v e => ?_) (fun x hx => ?_) hμ (fun k' hk => ?_) hB (fun x l0 B hx e1 e2 => ⟨hbl B (hs.lt e1 e2).2, fun _ h => h⟩), hs.turnNx H.length he hμ hB hos ht ho hsz (fun B h _ => hbl B h) (fun _ _ _ h => .inl h)⟩
  · simp at hx
    rw [hμ x (by omega)]; exact hs.dom x (by omega)
  · have := hs.mem b o v e
    have hb := hs.memlt e
    unfold World.cell? at this ⊢
    rw [hbl b hb]; exact this
  · rcases Nat.lt_or_ge x H.length with h | h
    · rw [List.getElem?_append_left h]
    · rw [List.getElem?_eq_none (by simp; omega), List.getElem?_eq_none (by omega)]
  · simp at hk
    subst hk; exact hb
theorem alloc_new (w : World) (o : Obj) : (w.alloc o).heap[w.heap.size]? = some o := by
  show (w.heap.push o)[w.heap.size]? = _
  rw [Array.getElem?_push, if_pos rfl]
theorem alloc_old (w : World) (o : Obj) {B : Nat} (h : B < w.heap.size) : (w.alloc o).heap[B]? = w.heap[B]? := by
  show (w.heap.push o)[B]? = _
  rw [Array.getElem?_push, if_neg (by omega)]
theorem Sim.alloc (hs : Sim μ M w H) (o : Obj) (l : Loc) (k : Blk) (hl : l.ad = some w.heap.size) (hb : BlkOK (setLoc μ H.length l) M (w.alloc o) H.length k) :
    Sim (setLoc μ H.length l) M (w.alloc o) (H ++ [k]) ∧ Nx μ M w H (setLoc μ H.length l) M (w.alloc o) (H ++ [k]) :=
  hs.new l k (fun B h => by rw [hl] at h; cases h; exact Nat.le_refl _) rfl rfl rfl (by show w.heap.size ≤ (w.heap.push o).size; simp) (fun B h => alloc_old w o h) hb
theorem Sim.freshM (hs : Sim μ M w H) : ∀ o, M w.heap.size o = none := fun o => by
  cases h : M w.heap.size o with
  | none => rfl
  | some v => have := hs.memlt h; omega
/-- a new variable -/
theorem Sim.box (hs : Sim μ M w H) (ty : Nat) (vs : Array Value) (cs : List AV) (hv : VRs M μ vs cs) :
    ∃ l, Sim (setLoc μ H.length l) M (w.alloc (.cells vs ty)) (H ++ [.box ty cs]) ∧ Nx μ M w H (setLoc μ H.length l) M (w.alloc (.cells vs ty)) (H ++ [.box ty cs]) ∧
      VR M (setLoc μ H.length l) (.pointer (some ⟨w.heap.size, 0, none⟩)) (.bptr H.length 0) := by
  have he := Ext.new hs ⟨some w.heap.size, 0, 0, 0, 0⟩
  obtain ⟨k1, k2⟩ := hs.alloc (.cells vs ty) ⟨some w.heap.size, 0, 0, 0, 0⟩ (.box ty cs) rfl ⟨_, w.heap.size, vs, setLoc_same _ _ _, rfl, rfl, alloc_new _ _, hv.ext he, hs.freshM⟩
  exact ⟨_, k1, k2, .bptr _ _ _ _ (setLoc_same _ _ _) ⟨_, rfl⟩ fun _ => ⟨_, rfl, rfl⟩⟩
/-- a row of none -/
theorem Sim.nilRow (hs : Sim μ M w H) (ty sz : Nat) (hsz : 0 < sz) : ∃ l, Sim (setLoc μ H.length l) M w (H ++ [.row ty sz [] 0 0]) ∧ Nx μ M w H (setLoc μ H.length l) M w (H ++ [.row ty sz [] 0 0]) ∧
      VR M (setLoc μ H.length l) (.slice none 0 0) (.row H.length 0) := by
  obtain ⟨k1, k2⟩ := hs.new (w' := w) ⟨none, 0, 0, sz, 0⟩ (.row ty sz [] 0 0) (fun B h => by cases h) rfl rfl rfl (Nat.le_refl _) (fun _ _ => rfl)
    ⟨_, setLoc_same _ _ _, rfl, rfl, rfl, hsz, Nat.le_refl _, by simp, .inl ⟨rfl, rfl, rfl⟩⟩
  exact ⟨_, k1, k2, .row _ _ _ _ (setLoc_same _ _ _) (Nat.le_refl _) ⟨_, _, _, rfl⟩ fun _ => rfl⟩
/-- a row of plain data -/
theorem Sim.row (hs : Sim μ M w H) (ty sz n cap : Nat) (el : List (List FV)) (vs : Array Value) (hsz : 0 < sz) (hn : n = el.length) (hc : n ≤ cap) (hcap : cap ≤ 9223372036854775807) (hvs : vs.size = cap * sz)
    (hl : ∀ (i : Nat) (cs : List FV), el[i]? = some cs → cs.length = sz) (hv : ∀ (i : Nat) (cs : List FV) (j : Nat) (x : FV) (v : Value), el[i]? = some cs → cs[j]? = some x → vs[i * sz + j]? = some v → FR M v x) :
    ∃ l, Sim (setLoc μ H.length l) M (w.alloc (.cells vs ty)) (H ++ [.row ty sz el 0 0]) ∧ Nx μ M w H (setLoc μ H.length l) M (w.alloc (.cells vs ty)) (H ++ [.row ty sz el 0 0]) ∧
      VR M (setLoc μ H.length l) (.slice (some ⟨w.heap.size, 0, none⟩) n cap) (.row H.length 0) := by
  subst hn
  obtain ⟨k1, k2⟩ := hs.alloc (.cells vs ty) ⟨some w.heap.size, el.length, cap, sz, 0⟩ (.row ty sz el 0 0) rfl
    ⟨_, setLoc_same _ _ _, rfl, rfl, rfl, hsz, Nat.zero_le _, hcap, .inr ⟨w.heap.size, vs, rfl, alloc_new _ _, hc, hvs, hl, hv, fun o _ => hs.freshM o⟩⟩
  exact ⟨_, k1, k2, .row _ _ _ _ (setLoc_same _ _ _) (Nat.le_refl _) ⟨_, _, _, rfl⟩ fun _ => rfl⟩
theorem Sim.rows (hs : Sim μ M w H) (ty n cap : Nat) (el : List AV) (vs : Array Value) (hn : n = el.length) (hc : n ≤ cap) (hcap : cap ≤ 9223372036854775807) (hvs : vs.size = cap)
    (hv : ∀ (i : Nat) (x : AV) (v : Value), el[i]? = some x → vs[i]? = some v → VR M μ v x) :
    ∃ l, Sim (setLoc μ H.length l) M (w.alloc (.cells vs ty)) (H ++ [.rows ty el 0 0]) ∧ Nx μ M w H (setLoc μ H.length l) M (w.alloc (.cells vs ty)) (H ++ [.rows ty el 0 0]) ∧
      VR M (setLoc μ H.length l) (.slice (some ⟨w.heap.size, 0, none⟩) n cap) (.row H.length 0) := by
  subst hn
  have he := Ext.new hs ⟨some w.heap.size, el.length, cap, 1, 0⟩
  obtain ⟨k1, k2⟩ := hs.alloc (.cells vs ty) ⟨some w.heap.size, el.length, cap, 1, 0⟩ (.rows ty el 0 0) rfl
    ⟨_, setLoc_same _ _ _, rfl, rfl, rfl, Nat.zero_le _, hcap, .inr ⟨w.heap.size, vs, rfl, alloc_new _ _, hc, hvs, fun i x v e1 e2 => (hv i x v e1 e2).ext he, fun o _ => hs.freshM o⟩⟩
  exact ⟨_, k1, k2, .row _ _ _ _ (setLoc_same _ _ _) (Nat.le_refl _) ⟨_, _, _, rfl⟩ fun _ => rfl⟩
theorem VR.cells {v : Value} {x : AV} (h : VR M μ v x) (hx : x ≠ .undef) : VRs M μ v.cells x.cells := by
  cases h with
  | agg vs cs hl h => exact ⟨hl, h⟩
  | undef v => exact absurd rfl hx
  | d h =>
    have : ∀ {v : Value} {x : FV}, FR M v x → v.cells = #[v] := fun h => by cases h <;> rfl
    simp only [this h, AV.cells]
    refine ⟨rfl, fun i u y e1 e2 => ?_⟩
    cases i with
    | zero => simp at e1 e2; subst e1; subst e2; exact .d h
    | succ i => simp at e2
  | row v b g l hl hg h1 h =>
    obtain ⟨A, n, c, rfl⟩ := h1
    refine ⟨rfl, fun i u y e1 e2 => ?_⟩
    cases i with
    | zero => simp [Value.cells, AV.cells] at e1 e2; subst e1; subst e2; exact .row _ b g l hl hg ⟨_, _, _, rfl⟩ h
    | succ i => simp [AV.cells] at e2
  | bptr v b j l hl h1 h =>
    obtain ⟨A, rfl⟩ := h1
    refine ⟨rfl, fun i u y e1 e2 => ?_⟩
    cases i with
    | zero => simp [Value.cells, AV.cells] at e1 e2; subst e1; subst e2; exact .bptr _ b j l hl ⟨_, rfl⟩ h
    | succ i => simp [AV.cells] at e2
  | eptr v b g i' j l hl hg h1 h =>
    obtain ⟨A, rfl⟩ := h1
    refine ⟨rfl, fun i u y e1 e2 => ?_⟩
    cases i with
    | zero => simp [Value.cells, AV.cells] at e1 e2; subst e1; subst e2; exact .eptr _ b g i' j l hl hg ⟨_, rfl⟩ h
    | succ i => simp [AV.cells] at e2
  | win v b g lo n l hl hg h1 h =>
    obtain ⟨A, m, c, rfl⟩ := h1
    refine ⟨rfl, fun i u y e1 e2 => ?_⟩
    cases i with
    | zero => simp [Value.cells, AV.cells] at e1 e2; subst e1; subst e2; exact .win _ b g lo n l hl hg ⟨_, _, _, rfl⟩ h
    | succ i => simp [AV.cells] at e2
  | map v b l hl h1 h =>
    obtain ⟨A, rfl⟩ := h1
    refine ⟨rfl, fun i u y e1 e2 => ?_⟩
    cases i with
    | zero => simp [Value.cells, AV.cells] at e1 e2; subst e1; subst e2; exact .map _ b l hl ⟨_, rfl⟩ h
    | succ i => simp [AV.cells] at e2
  | fptr b o u cs hM hR =>
    refine ⟨rfl, fun i u' y e1 e2 => ?_⟩
    cases i with
    | zero => simp [Value.cells, AV.cells] at e1 e2; subst e1; subst e2; exact .fptr b o u cs hM hR
    | succ i => simp [AV.cells] at e2
  | func f vs cs hl h =>
    refine ⟨rfl, fun i u' y e1 e2 => ?_⟩
    cases i with
    | zero => simp [Value.cells, AV.cells] at e1 e2; subst e1; subst e2; exact .func f vs cs hl h
    | succ i => simp [AV.cells] at e2
  | iface t v y h =>
    refine ⟨rfl, fun i u' y e1 e2 => ?_⟩
    cases i with
    | zero => simp [Value.cells, AV.cells] at e1 e2; subst e1; subst e2; exact .iface t v _ h
    | succ i => simp [AV.cells] at e2
  | tup vs cs hl h =>
    refine ⟨rfl, fun i u' y e1 e2 => ?_⟩
    cases i with
    | zero => simp [Value.cells, AV.cells] at e1 e2; subst e1; subst e2; exact .tup vs cs hl h
    | succ i => simp [AV.cells] at e2
theorem op_nilRow {ty sz : Nat} {o : Oper} (ho : o.op = .assign (.const (.slice none 0 0)) ∨ o.op = .move (.const (.slice none 0 0))) (hsz : 0 < sz) (hs : Sim μ M w H) {v : AV} {H' : Heap}
    (h : evOp (.nilRow ty sz) env H = some (v, H')) : Post μ M w H v H' ((execOp a.eval o).run P w) := by
  simp only [evOp, Option.some.injEq, Prod.mk.injEq] at h
  obtain ⟨rfl, rfl⟩ := h
  obtain ⟨l, k1, k2, k3⟩ := hs.nilRow ty sz hsz
  exact ⟨_, w, _, M, .inl (by rcases ho with ho | ho <;> simp [execOp, ho, Act.eval]), k3, k1, k2⟩
theorem op_box {ty : Nat} {x : Arg} {y : Operand} {o : Oper} (ho : o.op = .box ty y) (hok : okA x y = true) (hs : Sim μ M w H) (he : EnvR M μ a env) {v : AV} {H' : Heap}
    (h : evOp (.box ty x) env H = some (v, H')) : Post μ M w H v H' ((execOp a.eval o).run P w) := by
  simp only [evOp] at h
  split at h
  · cases h
  · rename_i hu
    simp only [Option.some.injEq, Prod.mk.injEq] at h
    obtain ⟨rfl, rfl⟩ := h
    obtain ⟨l, k1, k2, k3⟩ := hs.box ty _ _ ((he.arg hok).cells hu)
    exact ⟨_, _, _, M, .inl (by simp [execOp, ho, Instr.box, newVar, newRow]), k3, k1, k2⟩
end
end Go.Vm
/- Variables with their zero values; values put together; rows made. -/
namespace Go.Vm
open Go
section
variable {P : Program} {μ : Place} {M : Mem} {w : World} {H : Heap} {a : Act} {env : List AV}
def okI : Ini → Value → Bool
  | .v x, v => okC x v
  | .row _ sz, .slice none 0 0 => decide (0 < sz)
  | _, _ => false
def okIs : List Ini → List Value → Bool
  | [], [] => true
  | x :: xs, v :: vs => okI x v && okIs xs vs
  | _, _ => false
theorem inis_sound : ∀ (l : List Ini) {μ : Place} {H : Heap} (vs : List Value), okIs l vs = true → Sim μ M w H →
    ∃ μ', vs.length = (inis l H).1.length ∧ (∀ (i : Nat) (v : Value) (x : AV), vs[i]? = some v → (inis l H).1[i]? = some x → VR M μ' v x) ∧ Sim μ' M w (inis l H).2 ∧ Nx μ M w H μ' M w (inis l H).2
  | [], μ, H, vs, h, hs => by
    cases vs with
    | nil => exact ⟨μ, rfl, fun i v x e => by simp at e, hs, .refl _ _ _ _⟩
    | cons v vs => simp [okIs] at h
  | .v x :: r, μ, H, vs, h, hs => by
    cases vs with
    | nil => simp [okIs] at h
    | cons v vs =>
      simp only [okIs, okI, Bool.and_eq_true] at h
      obtain ⟨μ', k1, k2, k3, k4⟩ := inis_sound r vs h.2 hs
      refine ⟨μ', by simp [inis, k1], fun i u y e1 e2 => ?_, k3, k4⟩
      cases i with
      | zero => simp [inis] at e1 e2; subst e1; subst e2; exact .d (okC_sound h.1)
      | succ i => exact k2 i u y (by simpa using e1) (by simpa [inis] using e2)
  | .row ty sz :: r, μ, H, vs, h, hs => by
    cases vs with
    | nil => simp [okIs] at h
    | cons v vs =>
      simp only [okIs, Bool.and_eq_true] at h
      obtain ⟨h1, h2⟩ := h
      unfold okI at h1
      split at h1
      · cases ‹Ini.row _ _ = Ini.v _›
      · cases ‹Ini.row _ _ = Ini.row _ _›
        simp only [decide_eq_true_eq] at h1
        obtain ⟨l, q1, q2, q3⟩ := hs.nilRow ty sz h1
        obtain ⟨μ', k1, k2, k3, k4⟩ := inis_sound r vs h2 q1
        refine ⟨μ', by simp [inis, k1], fun i u y e1 e2 => ?_, k3, q2.trans k4⟩
        cases i with
        | zero => simp [inis] at e1 e2; subst e1; subst e2; exact q3.ext k4.ext
        | succ i => exact k2 i u y (by simpa using e1) (by simpa [inis] using e2)
      · cases h1
theorem op_alloc {ty : Nat} {ini : List Ini} {o : Oper} {i : TypeInfo} {z : Value} (ho : o.op = .alloc ty) (hi : P.info? ty = some i) (hz : i.zero = some z) (hok : okIs ini z.cells.toList = true) (hs : Sim μ M w H) {v : AV} {H' : Heap}
    (h : evOp (.alloc ty ini) env H = some (v, H')) : Post μ M w H v H' ((execOp a.eval o).run P w) := by
  simp only [evOp, Option.some.injEq, Prod.mk.injEq] at h
  obtain ⟨rfl, rfl⟩ := h
  obtain ⟨μ', k1, k2, k3, k4⟩ := inis_sound ini _ hok hs
  obtain ⟨l, q1, q2, q3⟩ := k3.box ty z.cells (inis ini H).1 ⟨by simpa using k1, fun i v x e1 e2 => k2 i v x (by simpa using e1) e2⟩
  exact ⟨_, _, _, M, .inl (by simp [execOp, ho, Instr.alloc, zeroValue, typeInfo, hi, hz, newVar, newRow]), q3, q1, k4.trans q2⟩

/-- a list with some of its cells laid anew -/
theorem putAt_get {α : Type} (l xs : List α) (off : Nat) (h : off + xs.length ≤ l.length) (i : Nat) : (putAt l off xs)[i]? = if off ≤ i ∧ i < off + xs.length then xs[i - off]? else l[i]? := by
  unfold putAt
  by_cases h1 : i < off
  · rw [if_neg (by omega), List.getElem?_append_left (by simp; omega), List.getElem?_append_left (by simp; omega), List.getElem?_take, if_pos h1]
  · by_cases h2 : i < off + xs.length
    · rw [if_pos ⟨by omega, h2⟩, List.getElem?_append_left (by simp; omega), List.getElem?_append_right (by simp; omega)]
      congr 1
      simp; omega
    · rw [if_neg (by omega), List.getElem?_append_right (by simp; omega), List.getElem?_drop]
      congr 1
      simp; omega
theorem putAt_length {α : Type} (l xs : List α) (off : Nat) (h : off + xs.length ≤ l.length) : (putAt l off xs).length = l.length := by
  simp [putAt]; omega
/-- the machine's way to lay cells -/
theorem foldl_put (off : Nat) : ∀ (xs : List Value) (k : Nat) (cs : Array Value), ((xs.zipIdx k).foldl (fun cs (c, j) => cs.setIfInBounds (off + j) c) cs).size = cs.size ∧
    ∀ i, ((xs.zipIdx k).foldl (fun cs (c, j) => cs.setIfInBounds (off + j) c) cs)[i]? = if off + k ≤ i ∧ i < off + k + xs.length ∧ i < cs.size then xs[i - (off + k)]? else cs[i]?
  | [], k, cs => ⟨by simp, fun i => by
    simp only [List.zipIdx_nil, List.foldl_nil, List.length_nil]
    rw [if_neg (by omega)]⟩
  | x :: xs, k, cs => by
    simp only [List.zipIdx_cons, List.foldl_cons]
    obtain ⟨h1, h2⟩ := foldl_put off xs (k + 1) (cs.setIfInBounds (off + k) x)
    refine ⟨by rw [h1]; simp, fun i => ?_⟩
    rw [h2]
    simp only [List.length_cons, Array.size_setIfInBounds]
    by_cases e : i = off + k
    · subst e
      rw [if_neg (by omega)]
      by_cases hlt : off + k < cs.size
      · rw [if_pos ⟨by omega, by omega, hlt⟩]
        simp [hlt]
      · rw [if_neg (by omega)]
        simp [hlt]
    · by_cases c : off + k ≤ i ∧ i < off + k + (xs.length + 1) ∧ i < cs.size
      · rw [if_pos ⟨by omega, by omega, c.2.2⟩, if_pos c]
        rw [show i - (off + k) = (i - (off + (k + 1))) + 1 by omega]
        simp
      · rw [if_neg (by omega), if_neg c]
        rw [Array.getElem?_setIfInBounds_ne (by omega)]
theorem VRs.laid {vs : Array Value} {cs : List AV} (h : VRs M μ vs cs) {us : Array Value} {ds : List AV} (hu : VRs M μ us ds) (off : Nat) (hl : off + ds.length ≤ cs.length) :
    VRs M μ (us.zipIdx.foldl (fun cs (c, j) => cs.setIfInBounds (off + j) c) vs) (putAt cs off ds) := by
  have e : us.zipIdx.foldl (fun cs (c, j) => cs.setIfInBounds (off + j) c) vs = (us.toList.zipIdx 0).foldl (fun cs (c, j) => cs.setIfInBounds (off + j) c) vs := by
    rw [← Array.foldl_toList, Array.toList_zipIdx]
  rw [e]
  obtain ⟨h1, h2⟩ := foldl_put off us.toList 0 vs
  have hsz := h.1
  have husz := hu.1
  refine ⟨by rw [h1, putAt_length _ _ _ hl]; exact hsz, fun i v x e1 e2 => ?_⟩
  rw [h2] at e1
  rw [putAt_get _ _ _ hl] at e2
  simp only [Array.length_toList, Nat.add_zero] at e1
  by_cases c : off ≤ i ∧ i < off + ds.length
  · rw [if_pos c] at e2
    rw [if_pos ⟨c.1, by omega, by omega⟩] at e1
    exact hu.2 _ v x (by simpa using e1) e2
  · rw [if_neg c] at e2
    rw [if_neg (by omega)] at e1
    exact h.2 i v x e1 e2
def okP (place : Nat → Option (Nat × Nat)) : List (Nat × Nat × Arg) → List (Nat × Operand) → Bool
  | [], [] => true
  | (off, n, x) :: r, (i, y) :: s => place i == some (off, n) && okA x y && okP place r s
  | _, _ => false
theorem fill_sound {place : Nat → Option (Nat × Nat)} (he : EnvR M μ a env) : ∀ (ps : List (Nat × Nat × Arg)) (qs : List (Nat × Operand)) (cs cs' : List AV) (vs : Array Value), okP place ps qs = true → VRs M μ vs cs → fill env ps cs = some cs' →
    ∃ vs', Instr.fill place vs (qs.map fun (i, y) => (i, a.eval y)) = some vs' ∧ VRs M μ vs' cs' ∧ cs'.length = cs.length
  | [], qs, cs, cs', vs, hok, hv, h => by
    cases qs with
    | nil => simp only [fill, Option.some.injEq] at h; subst h; exact ⟨vs, rfl, hv, rfl⟩
    | cons q qs => simp [okP] at hok
  | (off, n, x) :: r, qs, cs, cs', vs, hok, hv, h => by
    cases qs with
    | nil => simp [okP] at hok
    | cons q s =>
      obtain ⟨i, y⟩ := q
      simp only [okP, Bool.and_eq_true, beq_iff_eq] at hok
      simp only [fill] at h
      split at h
      · cases h
      rename_i hu
      split at h
      · rename_i hl
        have hx := (he.arg hok.1.2).cells hu
        have hlen : off + (x.ev env).cells.length ≤ cs.length := by omega
        have hput := hv.laid hx off hlen
        obtain ⟨vs', k1, k2, k3⟩ := fill_sound he r s _ cs' _ hok.2 hput h
        refine ⟨vs', ?_, k2, by rw [k3, putAt_length _ _ _ hlen]⟩
        simp only [List.map_cons, Instr.fill, hok.1.1]
        have c1 : ¬ ((a.eval y).cells.size ≠ n || decide (off + (a.eval y).cells.size > vs.size)) = true := by
          have := hx.1
          have := hv.1
          simp; omega
        rw [if_neg c1]
        exact k1
      · cases h
end
end Go.Vm
/- Values put together; rows made. -/
namespace Go.Vm
open Go
section
variable {P : Program} {μ : Place} {M : Mem} {w : World} {H : Heap} {a : Act} {env : List AV}
theorem run_zero {t : TypeId} {i : TypeInfo} {z : Value} (hi : P.info? t = some i) (hz : i.zero = some z) (w : World) : (zeroValue t).run P w = .ok z w := by simp [zeroValue, typeInfo, hi, hz]
def fieldPlace' (P : Program) (fs : Array Field) (i : Nat) : Option (Nat × Nat) := (fs[i]?).bind fun f => (P.info? f.type).map fun j => (f.offset, j.size)
theorem run_places (w : World) : ∀ (fs : List Field), fs.all (fun f => (P.info? f.type).isSome) = true →
    (fs.mapM (m := Sem) fun f => do pure (f.offset, ← sizeOf f.type)).run P w = .ok (fs.map fun f => (f.offset, ((P.info? f.type).map (·.size)).getD 0)) w
  | [], _ => by simp
  | f :: fs, h => by
    simp only [List.all_cons, Bool.and_eq_true] at h
    obtain ⟨i, hi⟩ := Option.isSome_iff_exists.1 h.1
    have := run_places w fs h.2
    simp only [List.mapM_cons, Sem.run_bind, run_size (show (P.info? f.type).map (·.size) = some i.size by simp [hi]), Result.andThen_ok, Sem.run_pure, this]
    simp [hi]
theorem op_build_struct {t : Nat} {zero : List FV} {parts : List (Nat × Nat × Arg)} {ps : Array (Nat × Operand)} {o : Oper} {fs : Array Field} {i : TypeInfo} {z : Value} (ho : o.op = .build t ps) (ht : P.underlying t = some (.struct fs)) (hi : P.info? t = some i) (hz : i.zero = some z)
    (hzero : okCs zero z.cells.toList = true) (hall : fs.toList.all (fun f => (P.info? f.type).isSome) = true) (hok : okP (fieldPlace' P fs) parts ps.toList = true) (hs : Sim μ M w H) (he : EnvR M μ a env) {v : AV} {H' : Heap}
    (h : evOp (.build zero parts) env H = some (v, H')) : Post μ M w H v H' ((execOp a.eval o).run P w) := by
  simp only [evOp] at h
  split at h
  · rename_i cs e
    simp only [Option.some.injEq, Prod.mk.injEq] at h
    obtain ⟨rfl, rfl⟩ := h
    obtain ⟨z1, z2⟩ := okCs_sound (M := M) hzero
    have hv : VRs M μ z.cells (zero.map .d) := ⟨by simpa using z1, fun i v x e1 e2 => by
      rw [List.getElem?_map] at e2
      cases hx : zero[i]? with
      | none => rw [hx] at e2; cases e2
      | some y => rw [hx] at e2; cases e2; exact .d (z2 i v y (by simpa using e1) hx)⟩
    obtain ⟨vs', k1, k2, k3⟩ := fill_sound he parts ps.toList _ cs z.cells hok hv e
    refine .pure (v := .agg vs') hs (.agg vs' cs k2.1 k2.2) ?_
    have hp : (fun i => (fs.toList.map fun f => (f.offset, ((P.info? f.type).map (·.size)).getD 0))[i]?) = fieldPlace' P fs := by
      funext i
      simp only [fieldPlace', List.getElem?_map, Array.getElem?_toList]
      cases hf : fs[i]? with
      | none => rfl
      | some f =>
        have := List.all_eq_true.1 hall f (by rw [← Array.getElem?_toList] at hf; exact List.mem_of_getElem? hf)
        obtain ⟨j, hj⟩ := Option.isSome_iff_exists.1 this
        simp [hj]
    have hm : (fs.mapM (m := Sem) fun f => do pure (f.offset, ← sizeOf f.type)).run P w = .ok (fs.map fun f => (f.offset, ((P.info? f.type).map (·.size)).getD 0)) w := by
      rw [Array.mapM_eq_mapM_toList]
      simp only [Sem.run_map, run_places w _ hall, Result.andThen_ok]
      congr 1
      apply Array.ext'
      simp
    have hp2 : (fun i => (fs.map fun f => (f.offset, ((P.info? f.type).map (·.size)).getD 0))[i]?) = fieldPlace' P fs := by
      rw [← hp]; funext i; simp
    simp only [execOp, ho, Instr.build, Sem.run_bind, run_zero hi hz, Result.andThen_ok, run_und ht, hm]
    rw [hp2]
    simp [k1]
  · cases h
/-- zero cells, row on row -/
theorem zeros_get (z : Array Value) (n : Nat) (hz : 0 < z.size) (i : Nat) : ((Array.range (n * z.size)).map (z[· % z.size]!))[i]? = if i < n * z.size then z[i % z.size]? else none := by
  have hm : i % z.size < z.size := Nat.mod_lt _ hz
  by_cases h : i < n * z.size
  · rw [if_pos h, Array.getElem?_map]
    simp [h, hm]
  · rw [if_neg h]
    exact Array.getElem?_eq_none (by simp; omega)
theorem flat_get {α : Type} (l : List α) : ∀ (n i : Nat), 0 < l.length → ((List.replicate n l).flatten)[i]? = if i < n * l.length then l[i % l.length]? else none
  | 0, i, _ => by simp
  | n + 1, i, hl => by
    rw [List.replicate_succ, List.flatten_cons]
    by_cases h : i < l.length
    · have h1 : l.length ≤ (n + 1) * l.length := Nat.le_mul_of_pos_left _ (by omega)
      rw [List.getElem?_append_left h, if_pos (by omega), Nat.mod_eq_of_lt h]
    · rw [List.getElem?_append_right (by omega), flat_get l n _ hl]
      have e : (i - l.length) % l.length = i % l.length := by
        conv => rhs; rw [show i = (i - l.length) + l.length by omega]
        rw [Nat.add_mod_right]
      have e2 : (n + 1) * l.length = n * l.length + l.length := by rw [Nat.add_mul, Nat.one_mul]
      rw [e]
      by_cases h2 : i - l.length < n * l.length
      · rw [if_pos h2, if_pos (by omega)]
      · rw [if_neg h2, if_neg (by omega)]
theorem zeros_VRs {z : Array Value} {zero : List FV} (hzl : z.size = zero.length) (hz : ∀ (i : Nat) (v : Value) (x : FV), z[i]? = some v → zero[i]? = some x → FR M v x) (n : Nat) (h0 : 0 < z.size) :
    VRs M μ ((Array.range (n * z.size)).map (z[· % z.size]!)) ((List.replicate n (zero.map AV.d)).flatten) := by
  refine ⟨by simp [hzl], fun i v x e1 e2 => ?_⟩
  rw [zeros_get _ _ h0] at e1
  rw [flat_get _ _ _ (by simp; omega)] at e2
  simp only [List.length_map, ← hzl] at e2
  split at e1
  · rename_i hi
    rw [if_pos hi, List.getElem?_map] at e2
    cases hx : zero[i % z.size]? with
    | none => rw [hx] at e2; cases e2
    | some y => rw [hx] at e2; cases e2; exact .d (hz _ v y e1 hx)
  · cases e1
theorem op_build_arr {t l e sz : Nat} {zero : List FV} {parts : List (Nat × Nat × Arg)} {ps : Array (Nat × Operand)} {o : Oper} {i : TypeInfo} {z : Value} (ho : o.op = .build t ps) (ht : P.underlying t = some (.array l e)) (hi : P.info? t = some i) (hz : i.zero = some z)
    (hzero : okCs zero z.cells.toList = true) (hsz : (P.info? e).map (·.size) = some sz) (hok : okP (fun i => some (i * sz, sz)) parts ps.toList = true) (hs : Sim μ M w H) (he : EnvR M μ a env) {v : AV} {H' : Heap}
    (h : evOp (.build zero parts) env H = some (v, H')) : Post μ M w H v H' ((execOp a.eval o).run P w) := by
  simp only [evOp] at h
  split at h
  · rename_i cs e
    simp only [Option.some.injEq, Prod.mk.injEq] at h
    obtain ⟨rfl, rfl⟩ := h
    obtain ⟨z1, z2⟩ := okCs_sound (M := M) hzero
    have hv : VRs M μ z.cells (zero.map .d) := ⟨by simpa using z1, fun i v x e1 e2 => by
      rw [List.getElem?_map] at e2
      cases hx : zero[i]? with
      | none => rw [hx] at e2; cases e2
      | some y => rw [hx] at e2; cases e2; exact .d (z2 i v y (by simpa using e1) hx)⟩
    obtain ⟨vs', k1, k2, k3⟩ := fill_sound he parts ps.toList _ cs z.cells hok hv e
    refine .pure (v := .agg vs') hs (.agg vs' cs k2.1 k2.2) ?_
    simp only [execOp, ho, Instr.build, Sem.run_bind, run_zero hi hz, Result.andThen_ok, run_und ht, run_size hsz]
    simp [k1]
  · cases h
theorem op_lit {t ty sz n : Nat} {zero : List FV} {parts : List (Nat × Arg)} {ps : Array (Nat × Operand)} {o : Oper} {i : TypeInfo} {z : Value} (ho : o.op = .buildSlice t n ps) (ht : P.underlying t = some (.slice ty)) (hi : P.info? ty = some i) (hz : i.zero = some z)
    (hzero : okCs zero z.cells.toList = true) (hsz : i.size = sz) (hzs : zero.length = sz) (h0 : 0 < sz) (hmax : n * sz ≤ 2 ^ 24) (hok : okP (fun i => some (i * sz, sz)) (parts.map fun (i, a) => (i * sz, sz, a)) ps.toList = true) (hs : Sim μ M w H) (he : EnvR M μ a env) {v : AV} {H' : Heap}
    (h : evOp (.lit ty sz n zero parts) env H = some (v, H')) : Post μ M w H v H' ((execOp a.eval o).run P w) := by
  simp only [evOp] at h
  split at h
  · rename_i cs e
    split at h
    · rename_i fs H1 e2
      simp only [Option.some.injEq, Prod.mk.injEq] at h
      obtain ⟨rfl, rfl⟩ := h
      obtain ⟨z1, z2⟩ := okCs_sound (M := M) hzero
      have hzc : z.cells.size = zero.length := by simpa using z1
      have hv : VRs M μ ((Array.range (n * z.cells.size)).map (z.cells[· % z.cells.size]!)) ((List.replicate n (zero.map AV.d)).flatten) := zeros_VRs hzc (fun i v x e1 e2 => z2 i v x (by simpa using e1) e2) n (by omega)
      obtain ⟨vs', k1, k2, k3⟩ := fill_sound he _ ps.toList _ cs _ hok hv e
      obtain ⟨M1, q1, q2, q3⟩ := fzL_sound fz_sound cs (vs := vs'.toList) hs (fun i v a e1 e2 => k2.2 i v a (by simpa using e1) e2) (by simpa using k2.1) e2
      have hlen : vs'.size = n * sz := by rw [k2.1, k3]; simp [hzs]
      have hfs : fs.length = n * sz := by rw [q1, ← hlen, k2.1]
      have hel : ∀ (i : Nat) (cs : List FV), ((List.range n).map fun i => (fs.drop (i * sz)).take sz)[i]? = some cs → i < n ∧ cs = (fs.drop (i * sz)).take sz := fun i cs e => by
        rw [List.getElem?_map] at e
        by_cases hi : i < n
        · rw [List.getElem?_range hi] at e; simp at e; exact ⟨hi, e.symm⟩
        · rw [List.getElem?_eq_none (by simpa using hi)] at e; cases e
      have hle : ∀ i, i < n → i * sz + sz ≤ n * sz := fun i hi => by
        calc i * sz + sz = (i + 1) * sz := by rw [Nat.add_mul, Nat.one_mul]
          _ ≤ n * sz := Nat.mul_le_mul_right _ (by omega)
      have hn : n ≤ n * sz := Nat.le_mul_of_pos_right _ h0
      obtain ⟨l, r1, r2, r3⟩ := q3.sim.row ty sz n n ((List.range n).map fun i => (fs.drop (i * sz)).take sz) vs' h0 (by simp) (Nat.le_refl _) (by omega) hlen
        (fun i cs e => by
          obtain ⟨hi, rfl⟩ := hel i cs e
          have := hle i hi
          simp; omega)
        (fun i cs j x v e1 e2 e3 => by
          obtain ⟨hi, rfl⟩ := hel i cs e1
          rw [List.getElem?_take] at e2
          split at e2
          · rw [List.getElem?_drop] at e2
            exact q2 (i * sz + j) v x (by simpa using e3) e2
          · cases e2)
      refine ⟨_, _, _, M1, .inl ?_, r3, r1, q3.nx.trans r2⟩
      have hmax' : ¬ (n * sz > 2 ^ 24) := by omega
      have hsz' : (P.info? ty).map (·.size) = some sz := by simp [hi, hsz]
      have hzs' : z.cells.size = sz := by omega
      rw [hzs'] at k1
      simp only [execOp, ho, Instr.buildSlice, Sem.run_bind, Sem.run_ite, run_und ht, Result.andThen_ok, run_size hsz', if_neg hmax', Sem.run_pure, run_zero hi hz]
      by_cases hnz : n * sz = 0
      · have hn0 : n = 0 := by
          rcases Nat.mul_eq_zero.1 hnz with h | h
          · exact h
          · omega
        subst hn0
        have e0 : ∀ f : Nat → Value, (Array.range (0 * sz)).map f = #[] := fun f => by simp
        rw [e0] at k1
        have k2 : Instr.fill (fun i => some (i * sz, sz)) #[] (List.map (fun x => (x.fst, a.eval x.snd)) ps.toList) = some vs' := k1
        simp only [if_pos hnz, Result.andThen_ok, e0]
        rw [Array.toList_map, k2]
        simp [newRow]
      · have k2 : Instr.fill (fun i => some (i * sz, sz)) (Array.map (fun x => z.cells[x % sz]!) (Array.range (n * sz))) (List.map (fun x => (x.fst, a.eval x.snd)) ps.toList) = some vs' := k1
        simp only [if_neg hnz, Sem.run_bind, run_zero hi hz, Sem.run_pure, Result.andThen_ok, hzs']
        rw [Array.toList_map, k2]
        simp [newRow]
    · cases h
  · cases h
end
end Go.Vm
/- Rows made by make; strings cut. -/
namespace Go.Vm
open Go
section
variable {P : Program} {μ : Place} {M : Mem} {w : World} {H : Heap} {a : Act} {env : List AV}
theorem run_asInt' (k : IntKind) (n : Int) (w : World) : (asInt (.int k n)).run P w = .ok n w := by simp [asInt, asIntOf]
theorem run_make {t e sz bytes : Nat} {i : TypeInfo} {z : Value} (ht : P.underlying t = some (.slice e)) (hi : P.info? e = some i) (hz : i.zero = some z) (hsz : i.size = sz) (hby : i.bytes = bytes) (hb0 : 0 < bytes) (hs0 : 0 < sz) (hzs : z.cells.size = sz) {k k' : IntKind} {n c : Int}
    (h0 : 0 ≤ n) (h1 : n ≤ c) (h2 : c * bytes ≤ 140737488355328) (w : World) :
    (Instr.makeSlice t (.int k n) (.int k' c)).run P w = .ok (.slice (some ⟨w.heap.size, 0, none⟩) n.toNat c.toNat) (w.alloc (.cells ((Array.range (c.toNat * z.cells.size)).map (z.cells[· % z.cells.size]!)) e)) := by
  have hc : c ≤ 140737488355328 := by
    have : c * 1 ≤ c * bytes := Int.mul_le_mul_of_nonneg_left (by omega) (by omega)
    omega
  have w1 : IntKind.i64.wrap n = n := IntWalk.i64_in n (by omega)
  have w2 : IntKind.i64.wrap c = c := IntWalk.i64_in c (by omega)
  have hbig : ¬ ((bytes : Int) * c > 2 ^ 48) := by
    rw [Int.mul_comm]; omega
  have hsz' : (P.info? e).map (·.size) = some sz := by simp [hi, hsz]
  have t1 : (decide (c < 0) || decide ((bytes : Int) * c > 2 ^ 48)) = false := by
    simp only [Bool.or_eq_false_iff, decide_eq_false_iff_not]; exact ⟨by omega, hbig⟩
  have t2 : (decide (c < 0) || decide ((i.bytes : Int) * c > 2 ^ 48) || decide (n < 0) || decide (n > c)) = false := by
    rw [hby, t1]; simp; omega
  simp only [Instr.makeSlice, Sem.run_bind, run_und ht, Result.andThen_ok, run_asInt', Sem.run_pure, typeInfo, run_program, hi, w1, w2, Sem.run_ite]
  simp only [t2, Bool.false_eq_true, if_false, run_askRoom, Result.andThen_ok, run_size hsz', Sem.run_pure]
  rw [← hzs]
  by_cases hn : c.toNat * z.cells.size = 0
  · have : c.toNat = 0 := by
      rcases Nat.mul_eq_zero.1 hn with h | h
      · exact h
      · omega
    have e0 : ∀ f : Nat → Value, (Array.range 0).map f = #[] := fun f => by simp
    simp [this, newRow, e0]
  · simp [hn, run_zero hi hz, newRow]
theorem op_mksl {t ty sz bytes : Nat} {zero : List FV} {n c : Arg} {yn yc : Operand} {o : Oper} {i : TypeInfo} {z : Value} (ho : o.op = .makeSlice t yn yc) (hn : okA n yn = true) (hc : okA c yc = true) (ht : P.underlying t = some (.slice ty)) (hi : P.info? ty = some i) (hz : i.zero = some z)
    (hzero : okCs zero z.cells.toList = true) (hsz : i.size = sz) (hby : i.bytes = bytes) (hb0 : 0 < bytes) (hzs : zero.length = sz) (h0 : 0 < sz) (hs : Sim μ M w H) (he : EnvR M μ a env) {v : AV} {H' : Heap}
    (h : evOp (.mksl ty sz bytes zero n c) env H = some (v, H')) : Post μ M w H v H' ((execOp a.eval o).run P w) := by
  simp only [evOp] at h
  split at h
  · rename_i m q e1 e2
    split at h
    · rename_i hb
      obtain ⟨b1, b2, b3⟩ := hb
      simp only [maxBytes] at b3
      simp only [Option.some.injEq, Prod.mk.injEq] at h
      obtain ⟨rfl, rfl⟩ := h
      obtain ⟨k1, f1⟩ := intOf_inv (he.arg hn) e1
      obtain ⟨k2, f2⟩ := intOf_inv (he.arg hc) e2
      obtain ⟨z1, z2⟩ := okCs_sound (M := M) hzero
      have hzc : z.cells.size = zero.length := by simpa using z1
      have hrun := run_make ht hi hz hsz hby hb0 h0 (by omega) b1 b2 b3 (k := k1) (k' := k2) w
      have hq : q ≤ 140737488355328 := by
        have : q * 1 ≤ q * bytes := Int.mul_le_mul_of_nonneg_left (by omega) (by omega)
        omega
      have hv := zeros_VRs (μ := μ) hzc (fun i v x e1 e2 => z2 i v x (by simpa using e1) e2) q.toNat (by omega)
      have hget : ∀ (i : Nat) (cs : List FV), (List.replicate m.toNat zero)[i]? = some cs → i < m.toNat ∧ cs = zero := fun i cs e => by
        rw [List.getElem?_replicate] at e
        split at e
        · rename_i hi
          cases e; exact ⟨hi, rfl⟩
        · cases e
      obtain ⟨l, r1, r2, r3⟩ := hs.row ty sz m.toNat q.toNat (List.replicate m.toNat zero) ((Array.range (q.toNat * z.cells.size)).map (z.cells[· % z.cells.size]!)) h0 (by simp) (by omega) (by omega) (by simp; rw [hzc, hzs])
        (fun i cs e => by obtain ⟨_, rfl⟩ := hget i cs e; exact hzs)
        (fun i cs j x v e1 e2 e3 => by
          obtain ⟨hi, rfl⟩ := hget i cs e1
          rw [zeros_get _ _ (by omega)] at e3
          split at e3
          · rw [hzc, hzs] at e3
            have hj := (List.getElem?_eq_some_iff.1 e2).1
            rw [hzs] at hj
            rw [show (i * sz + j) % sz = j by rw [Nat.mul_comm, Nat.mul_add_mod, Nat.mod_eq_of_lt hj]] at e3
            exact z2 j v x (by simpa using e3) e2
          · cases e3)
      exact ⟨_, _, _, M, .inl (by simp [execOp, ho, f1, f2, hrun]), r3, r1, r2⟩
    · cases h
  · cases h
end
end Go.Vm
/- Cuts. -/
namespace Go.Vm
open Go
section
variable {P : Program} {μ : Place} {M : Mem} {w : World} {H : Heap} {a : Act} {env : List AV}
def okO : Option Arg → Option Operand → Bool
  | none, none => true
  | some x, some y => okA x y
  | _, _ => false
theorem bounds_run (he : EnvR M μ a env) {x : Option Arg} {y : Option Operand} (hok : okO x y = true) {d n : Nat} (h : bounds (x.map (·.ev env)) d = some n) :
    (x = none ∧ y = none ∧ n = d) ∨ ∃ z u k, x = some z ∧ y = some u ∧ a.eval u = .int k n := by
  unfold okO at hok
  split at hok
  · simp [bounds] at h; exact .inl ⟨rfl, rfl, h.symm⟩
  · rename_i z u
    simp only [bounds, Option.map_some] at h
    split at h
    · rename_i i e
      split at h
      · rename_i h0
        cases h
        obtain ⟨k, e2⟩ := intOf_inv (he.arg hok) e
        exact .inr ⟨z, u, k, rfl, rfl, by rw [e2]; congr 1; omega⟩
      · cases h
    · cases h
  · cases hok
theorem run_bounds (he : EnvR M μ a env) {lo hi : Option Arg} {lo' hi' : Option Operand} (h1 : okO lo lo' = true) (h2 : okO hi hi' = true) (isSlice : Bool) {len cap l h : Nat} (hl : bounds (lo.map (·.ev env)) 0 = some l) (hh : bounds (hi.map (·.ev env)) len = some h)
    (hlh : l ≤ h) (hle : h ≤ len) (hc : len ≤ cap) (w : World) : (Instr.sliceBounds isSlice len cap (lo'.map a.eval) (hi'.map a.eval) none).run P w = .ok (l, h, cap) w := by
  have b : ∀ (k : IntKind) (n y : Nat) (c : BoundsCode), n ≤ y → (Instr.sliceBound (.int k n) y c).run P w = .ok n w := fun k n y c hn => by
    simp [Instr.sliceBound, asIntOf, hn]
  rcases bounds_run he h1 hl with ⟨rfl, rfl, rfl⟩ | ⟨z, u, k, rfl, rfl, e1⟩ <;> rcases bounds_run he h2 hh with ⟨rfl, rfl, rfl⟩ | ⟨z2, u2, k2, rfl, rfl, e2⟩
  · simp [Instr.sliceBounds]
  · simp [Instr.sliceBounds, e2, b k2 h cap _ (by omega)]
  · simp [Instr.sliceBounds, e1, b k l _ _ hlh]
  · simp [Instr.sliceBounds, e1, e2, b k2 h cap _ (by omega), b k l h _ hlh]
theorem op_cutS {x : Arg} {y : Operand} {lo hi : Option Arg} {lo' hi' : Option Operand} {o : Oper} {t : Nat} (ho : o.op = .slice t y lo' hi' none) (hok : okA x y = true) (h1 : okO lo lo' = true) (h2 : okO hi hi' = true) (ht : P.underlying t = some .string) (hs : Sim μ M w H) (he : EnvR M μ a env) {v : AV} {H' : Heap}
    (h : evOp (.cutS x lo hi) env H = some (v, H')) : Post μ M w H v H' ((execOp a.eval o).run P w) := by
  have hx := he.arg hok
  simp only [evOp] at h
  split at h
  · rename_i s e
    rw [e] at hx
    split at h
    · rename_i l r e1 e2
      split at h
      · rename_i hb
        simp only [Option.some.injEq, Prod.mk.injEq] at h
        obtain ⟨rfl, rfl⟩ := h
        refine .pure (v := .string (s.extract l r)) hs (.d (.str _)) ?_
        have := run_bounds (P := P) he h1 h2 false e1 e2 hb.1 hb.2 (Nat.le_refl _) w
        simp [execOp, ho, Instr.sliceAt, run_und ht, Instr.slice, hx.str_inv, this]
      · cases h
    · cases h
  · cases h
theorem op_cut {x : Arg} {y : Operand} {lo hi : Option Arg} {lo' hi' : Option Operand} {o : Oper} {t e sz : Nat} (ho : o.op = .slice t y lo' hi' none) (hok : okA x y = true) (h1 : okO lo lo' = true) (h2 : okO hi hi' = true) (ht : P.underlying t = some (.slice e)) (hsz : (P.info? e).map (·.size) = some sz) (hs : Sim μ M w H) (he : EnvR M μ a env) {v : AV} {H' : Heap}
    (h : evOp (.cut sz x lo hi) env H = some (v, H')) : Post μ M w H v H' ((execOp a.eval o).run P w) := by
  have hx := he.arg hok
  simp only [evOp] at h
  split at h
  · rename_i xs H1 e0
    · split at h
      · rename_i l r e1 e2
        split at h
        · rename_i hb
          obtain ⟨hlr, hrl, hxs⟩ := hb
          simp only [Option.some.injEq, Prod.mk.injEq] at h
          obtain ⟨rfl, rfl⟩ := h
          obtain ⟨M1, f1, f2⟩ := fz_sound _ _ _ _ _ _ _ _ hs hx e0
          cases hv : a.eval y with
          | slice A n cap =>
            rw [hv] at f1
            -- the machine's own cut
            have run : n = xs.length → xs.length ≤ cap → (execOp a.eval o).run P w = .ok (.value (.slice (if cap = l then A else A.map (·.add (l * sz))) (r - l) (cap - l))) w := fun hn hc => by
              subst hn
              have := run_bounds (P := P) he h1 h2 true e1 e2 hlr hrl hc w
              simp [execOp, ho, Instr.sliceAt, run_und ht, Instr.slice, hv, this, run_size hsz]
            cases f1 with
            | slE A cap =>
              simp only [List.length_nil, Nat.le_zero_eq] at hrl
              subst hrl
              simp only [Nat.le_zero_eq] at hlr
              subst hlr
              refine ⟨_, w, μ, M1, .inl (run rfl (Nat.zero_le _)), ?_, f2.sim, f2.nx⟩
              simp only [List.drop_nil, List.take_nil]
              exact .d (.slE _ _)
            | sl b p cap sz' u xs hne hc hl' hM hR =>
              have hsz' : sz' = sz := by
                cases xs with
                | nil => exact absurd rfl hne
                | cons c r => have := hl' 0 c rfl; simp [headOK] at hxs; omega
              subst hsz'
              refine ⟨_, w, μ, M1, .inl (run rfl hc), .d ?_, f2.sim, f2.nx⟩
              have hget : ∀ (i : Nat) (cs : List FV), ((xs.drop l).take (r - l))[i]? = some cs → i < r - l ∧ xs[l + i]? = some cs := fun i cs e => by
                rw [List.getElem?_take] at e
                split at e
                · rename_i hi
                  rw [List.getElem?_drop] at e
                  exact ⟨hi, e⟩
                · cases e
              by_cases hemp : (xs.drop l).take (r - l) = []
              · have : r - l = 0 := by
                  have := congrArg List.length hemp
                  simp at this; omega
                rw [hemp, this]
                exact .slE _ _
              · have hlt : l < r := by
                  rcases Nat.lt_or_ge l r with h | h
                  · exact h
                  · exfalso; apply hemp; rw [show r - l = 0 by omega]; simp
                have hlen : ((xs.drop l).take (r - l)).length = r - l := by simp; omega
                rw [if_neg (by omega)]
                simp only [Option.map_some, addr_add]
                have := FR.sl (M := M1) b (p + l * sz') (cap - l) sz' (fun i j => u (l + i) j) ((xs.drop l).take (r - l)) hemp (by omega) (fun i cs e => hl' _ cs (hget i cs e).2)
                  (fun i cs j x e e' => by
                    have := hM (l + i) cs j x (hget i cs e).2 e'
                    rw [show p + l * sz' + i * sz' + j = p + (l + i) * sz' + j by rw [Nat.add_mul]; omega]; exact this)
                  (fun i cs j x e e' => hR (l + i) cs j x (hget i cs e).2 e')
                rw [hlen] at this
                exact this
          | _ => rw [hv] at f1; cases f1
        · cases h
      · cases h
  · cases h
end
end Go.Vm
