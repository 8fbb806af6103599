/- Common ground: a pure interpreter for the program, and what it computes. -/
import Derived.Calls
import Derived.Defers
import Derived.Below
import Derived.Laws.World
import Derived.Laws.Sem
import Derived.Laws.Append
import Derived.Laws.Cells
import Derived.Laws.Entries
set_option linter.all false
section
namespace Hp
open Go
/-- Pure values. 'any': nothing is known. 'iptr', 'isl': a pointer, a slice into memory that nobody writes any more, with what lies there. 'mptr', 'msl', 'map': into the interpreter's own heap. -/
inductive PV where
  | any
  | bool (b : Bool)
  | int (k : IntKind) (n : Int)
  | str (s : ByteArray)
  | nilp | nilf | nili | nilm
  | agg (cs : List PV)
  | tup (vs : List PV)
  | iptr (cs : List PV)
  | isl (full : Bool) (sz : Nat) (es : List PV)
  | mptr (id ix off : Nat)
  | msl (id off len cp : Nat)
  | map (id : Nat)
  | fn (f : FuncId) (first cap : List PV)
  | ifc (t : TypeId) (v : PV)
  deriving Inhabited
def PV.cells : PV → List PV
  | .agg cs => cs
  | v => [v]
inductive PObj where
  | arr (sz : Nat) (es : List PV)
  | map (es : List (PV × PV × Nat)) (clk : Nat)
  deriving Inhabited
structure HO where
  fz : Bool
  o : PObj
  deriving Inhabited
/-- a tree of numbered things: kept small for the kernel's sake -/
inductive Tr (α : Type) where
  | e
  | n (v : Option α) (l r : Tr α)
  deriving Inhabited
def Tr.get {α : Type} : Tr α → Nat → Option α
  | .e, _ => none
  | .n v l r, i => if i = 0 then v else if i % 2 = 1 then l.get (i / 2) else r.get (i / 2 - 1)
def Tr.putF {α : Type} (x : Option α) : Nat → Tr α → Nat → Tr α
  | 0, t, _ => t
  | f + 1, .e, i => if i = 0 then .n x .e .e else if i % 2 = 1 then .n none (putF x f .e (i / 2)) .e else .n none .e (putF x f .e (i / 2 - 1))
  | f + 1, .n v l r, i => if i = 0 then .n x l r else if i % 2 = 1 then .n v (putF x f l (i / 2)) r else .n v l (putF x f r (i / 2 - 1))
def Tr.put {α : Type} (t : Tr α) (i : Nat) (x : Option α) : Tr α := Tr.putF x (i + 1) t i
abbrev Heap := Tr HO
def hset (h : Heap) (id : Nat) (x : Option PObj) : Heap := h.put id (x.map fun o => ⟨false, o⟩)
def hsets (h : Heap) : List (Nat × Option PObj) → Heap
  | [] => h
  | (id, x) :: l => hsets (hset h id x) l
def hfrz (h : Heap) (id : Nat) : Heap := h.put id ((h.get id).map fun x => ⟨true, x.o⟩)
def hfrzs (h : Heap) : List Nat → Heap
  | [] => h
  | id :: l => hfrzs (hfrz h id) l
abbrev Fr := Tr PV
def Fr.at (fr : Fr) (i : Nat) : PV := (fr.get i).getD .any
def Fr.set (fr : Fr) (d : Nat) (v : PV) : Fr := fr.put d (some v)
def Fr.of (l : List (Nat × PV)) : Fr := l.foldl (fun fr (d, v) => Fr.set fr d v) .e
inductive Opd where
  | t (n : Nat)
  | c (v : PV)
  deriving Inhabited
def Opd.get (fr : Fr) : Opd → PV
  | .t n => Fr.at fr n
  | .c v => v
inductive SK where
  | i | s | b
  deriving DecidableEq, Inhabited
inductive EqK where
  | sc (k : SK)
  | ptr | fn | mp
  | st (ks : List SK)
  | ns (ks : List SK)
  deriving DecidableEq, Inhabited
inductive Mode where
  | iso | inl | ext | own | inn
  deriving DecidableEq, Inhabited
inductive POp where
  | mv (x : Opd)
  | pick (c a b : Opd)
  | alloc (zero : PV)
  | box (k : Nat) (x : Opd)
  | build (zero : List PV) (parts : List (Nat × Nat × Opd))
  | lits (sz len : Nat) (zero : PV) (parts : List (Nat × Opd))
  | load (k : Nat) (ag : Bool) (a : Opd)
  | store (k : Nat) (a x : Opd)
  | nilCheck (x : Opd)
  | bin (op : BinOp) (x y : Opd)
  | eq (k : EqK) (neg : Bool) (x y : Opd)
  | un (op : UnOp) (x : Opd)
  | conv (k : IntKind) (x : Opd)
  | faddr (off : Nat) (x : Opd)
  | iaddr (sz : Nat) (x i : Opd)
  | aaddr (n sz : Nat) (x i : Opd)
  | sidx (x i : Opd)
  | slice (sz : Nat) (x : Opd) (lo hi mx : Option Opd)
  | ssub (x : Opd) (lo hi : Option Opd)
  | mkmap
  | look (kk : EqK) (ok : Bool) (zero : PV) (m k : Opd)
  | mupd (kk : EqK) (m k v : Opd)
  | ment (kk : EqK) (zero : PV) (m k : Opd)
  | mest (m s v : Opd)
  | ext (x : Opd) (i : Nat)
  | mkfn (f : FuncId) (first cap : List Opd)
  | mkifc (t : TypeId) (x : Opd)
  | len (k : Nat) (x : Opd)
  | clen (n : Nat)
  | app (bytes : Nat) (zero : PV) (x y : Opd)
  | copy (k : Nat) (x y : Opd)
  | clear (zero : PV) (x : Opd)
  | clearm (x : Opd)
  | maxi (x y : Opd)
  | mini (x y : Opd)
  | mkslice (sz bytes : Nat) (zero : PV) (n c : Opd)
  | panic (x : Opd)
  | call (m : Mode) (f : FuncId) (args : List Opd)
  | callv (m : Mode) (f : Opd) (args : List Opd)
  | dfr (f : FuncId) (args : List Opd)
  deriving Inhabited
structure PG where
  dst : Option Nat
  guard : Option (Nat × Bool)
  op : POp
  deriving Inhabited
inductive PC where
  | skip
  | region (ops : List PG)
  | draw (un : List (Nat × Nat)) (ops : List PG)
  | seq (a b : PC)
  | cond (c : Opd) (a b : PC)
  | block (id : Nat) (a : PC)
  | loop (live : List Nat) (a : PC)
  | exit (id : Nat)
  | ret
  deriving Inhabited
inductive PRes where
  | tmp (t : Nat)
  | cell (t k : Nat) (ag : Bool)
  deriving Inhabited
structure PF where
  np : Nat
  res : List PRes
  body : PC
  deriving Inhabited
/-! ### scalars -/
def pbin (op : BinOp) : PV → PV → Option PV
  | .int k a, .int k' b =>
    match op with
    | .shl => if b < 0 then none else some (.int k (k.wrap (a * 2 ^ (min b.toNat k.bits))))
    | .shr => if b < 0 then none else some (.int k (a.fdiv (2 ^ (min b.toNat k.bits))))
    | _ =>
      if k ≠ k' then none else
      match op with
      | .add => some (.int k (k.wrap (a + b)))
      | .sub => some (.int k (k.wrap (a - b)))
      | .mul => some (.int k (k.wrap (a * b)))
      | .quo => if b = 0 then none else some (.int k (k.wrap (a.tdiv b)))
      | .rem => if b = 0 then none else some (.int k (a.tmod b))
      | .and => some (.int k (k.wrap (BitVec.ofInt k.bits a &&& BitVec.ofInt k.bits b).toNat))
      | .or => some (.int k (k.wrap (BitVec.ofInt k.bits a ||| BitVec.ofInt k.bits b).toNat))
      | .xor => some (.int k (k.wrap (BitVec.ofInt k.bits a ^^^ BitVec.ofInt k.bits b).toNat))
      | .andNot => some (.int k (k.wrap (BitVec.ofInt k.bits a &&& ~~~ BitVec.ofInt k.bits b).toNat))
      | .eql => some (.bool (a == b))
      | .neq => some (.bool (a != b))
      | .lss => some (.bool (a < b))
      | .leq => some (.bool (a ≤ b))
      | .gtr => some (.bool (a > b))
      | .geq => some (.bool (a ≥ b))
      | _ => none
  | .str a, .str b =>
    match op with
    | .eql => some (.bool (a.toList == b.toList))
    | .neq => some (.bool (!(a.toList == b.toList)))
    | _ => none
  | _, _ => none
/- equality of two cells that are scalars -/
def scEq : SK → PV → PV → Option Bool
  | .i, .int k a, .int k' b => if k = k' then some (a == b) else none
  | .s, .str a, .str b => some (a == b)
  | .b, .bool a, .bool b => some (a == b)
  | _, _, _ => none
def scEqL : List SK → List PV → List PV → Option Bool
  | [], [], [] => some true
  | k :: ks, a :: x, b :: y => match scEq k a b, scEqL ks x y with
    | some p, some q => some (p && q)
    | _, _ => none
  | _, _, _ => none
/- equality of keys -/
def keyEq : EqK → PV → PV → Option Bool
  | .sc k, a, b => scEq k a b
  | .st ks, .agg x, .agg y => scEqL ks x y
  | _, _, _ => none
def peq : EqK → PV → PV → Option Bool
  | .sc k, a, b => scEq k a b
  | .st ks, .agg x, .agg y => scEqL ks x y
  | .ns ks, .agg x, .agg y => scEqL ks x y
  | .ptr, .nilp, .nilp => some true
  | .ptr, .nilp, .iptr _ | .ptr, .iptr _, .nilp | .ptr, .nilp, .mptr .. | .ptr, .mptr .., .nilp => some false
  | .fn, .nilf, .nilf => some true
  | .fn, .nilf, .fn .. | .fn, .fn .., .nilf => some false
  | .mp, .nilm, .nilm => some true
  | .mp, .nilm, .map _ | .mp, .map _, .nilm => some false
  | _, _, _ => none
def pun (op : UnOp) : PV → Option PV
  | .int k n => match op with
    | .neg => some (.int k (k.wrap (0 - n)))
    | _ => none
  | .bool b => match op with
    | .not => some (.bool (!b))
    | _ => none
  | _ => none
/-! ### memory -/
def harr (h : Heap) (id : Nat) : Option (Bool × Nat × List PV) :=
  match h.get id with
  | some ⟨fz, .arr sz es⟩ => some (fz, sz, es)
  | _ => none
/-- the cells behind a pointer -/
def behind (h : Heap) : PV → Option (List PV)
  | .iptr cs => some cs
  | .mptr id ix off => match harr h id with
    | some (_, _, es) => (es[ix]?).map fun e => e.cells.drop off
    | none => none
  | _ => none
def ldCells (k : Nat) (ag : Bool) (cs : List PV) : Option PV :=
  if ag then (if k ≤ cs.length then some (.agg (cs.take k)) else none) else cs.head?
def ldv (h : Heap) (k : Nat) (ag : Bool) (a : PV) : Option PV := (behind h a).bind (ldCells k ag)
def isAgg : PV → Bool
  | .agg _ => true
  | _ => false
def putCells (e : PV) (off : Nat) (new : List PV) : Option PV :=
  match e with
  | .agg cs => if off + new.length ≤ cs.length then some (.agg (cs.take off ++ new ++ cs.drop (off + new.length))) else none
  | _ => match off, new with
    | 0, [v] => if isAgg v then none else some v
    | _, _ => none
/- may it be put into memory? -/
def okv : PV → Bool
  | .any | .tup _ => false
  | _ => true
/- what a slice of elements of k cells holds -/
def elems (h : Heap) (k : Nat) : PV → Option (List PV)
  | .isl _ sz es => if es.isEmpty || k == sz then some es else none
  | .msl id off len _ => if len = 0 then some [] else match harr h id with
    | some (_, sz, es) => if k = sz ∧ off + len ≤ es.length then some ((es.drop off).take len) else none
    | none => none
  | _ => none
def natOf : PV → Option Nat
  | .int _ n => if 0 ≤ n then some n.toNat else none
  | _ => none
def optNat (fr : Fr) (d : Nat) : Option Opd → Option Nat
  | none => some d
  | some x => natOf (x.get fr)
def findE (kk : EqK) (k : PV) : List (PV × PV × Nat) → Nat → Option (Option (Nat × PV × Nat))
  | [], _ => some none
  | (k', v, b) :: l, i => match keyEq kk k k' with
    | some true => some (some (i, v, b))
    | some false => findE kk k l (i + 1)
    | none => none
def findB (b : Int) : List (PV × PV × Nat) → Nat → Option Nat
  | [], _ => none
  | (_, _, b') :: l, i => if (b' : Int) = b then some i else findB b l (i + 1)
def fillCells (zero : List PV) : List (Nat × Nat × PV) → Option (List PV)
  | [] => some zero
  | (off, k, v) :: l => if okv v = true ∧ v.cells.length = k ∧ off + k ≤ zero.length then fillCells (zero.take off ++ v.cells ++ zero.drop (off + k)) l else none
def setAll (sz : Nat) (es : List PV) : List (Nat × PV) → Option (List PV)
  | [] => some es
  | (i, v) :: l => if okv v = true ∧ v.cells.length = sz ∧ i < es.length then setAll sz (es.set i v) l else none
def okBytes (n : Nat) : Bool := n ≤ 281474976710656
/- deep reading: the value as data in memory that stays; f reads what leads into the own heap -/
mutual
def reifyV (f : PV → Option PV) : PV → Option PV
  | .any => some .any
  | .bool b => some (.bool b)
  | .int k n => some (.int k n)
  | .str s => some (.str s)
  | .nilp => some .nilp
  | .nilf => some .nilf
  | .nili => some .nili
  | .nilm => some .nilm
  | .agg cs => (reifyL f cs).map .agg
  | .tup cs => (reifyL f cs).map .tup
  | .iptr cs => (reifyL f cs).map .iptr
  | .isl fu sz es => (reifyL f es).map (.isl fu sz)
  | .mptr id ix off => f (.mptr id ix off)
  | .msl id off len cp => f (.msl id off len cp)
  | .map _ => some .any
  | .fn g a b => match reifyL f a, reifyL f b with
    | some a, some b => some (.fn g a b)
    | _, _ => none
  | .ifc t v => (reifyV f v).map (.ifc t)
def reifyL (f : PV → Option PV) : List PV → Option (List PV)
  | [] => some []
  | v :: l => match reifyV f v, reifyL f l with
    | some v, some l => some (v :: l)
    | _, _ => none
end
/-- how deep the own heap may be nested in itself -/
def deref (h : Heap) : Nat → PV → Option PV
  | 0, _ => none
  | n + 1, .mptr id ix off => match harr h id with
      | some (_, _, es) => match es[ix]? with
        | some e => (reifyL (deref h n) (e.cells.drop off)).map .iptr
        | none => none
      | none => none
  | n + 1, .msl id off len cp => match harr h id with
      | some (_, sz, es) => if off + len ≤ es.length then (reifyL (deref h n) ((es.drop off).take len)).map (.isl false sz) else none
      | none => none
  | _ + 1, _ => none
def deep : Nat := 6
def reify (h : Heap) (v : PV) : Option PV := reifyV (deref h deep) v
mutual
/- data alone: nothing unknown, nothing that leads into the own heap -/
def imm : PV → Bool
  | .any | .mptr .. | .msl .. | .map _ => false
  | .bool _ | .int .. | .str _ | .nilp | .nilf | .nili | .nilm => true
  | .agg cs => immL cs
  | .tup cs => immL cs
  | .iptr cs => immL cs
  | .isl _ _ es => immL es
  | .fn _ a b => immL a && immL b
  | .ifc _ v => imm v
def immL : List PV → Bool
  | [] => true
  | v :: l => imm v && immL l
end
mutual
/- data without any memory -/
def noRefs : PV → Bool
  | .bool _ | .int .. | .str _ | .nilp | .nilf | .nili | .nilm => true
  | .agg cs => noRefsL cs
  | .tup cs => noRefsL cs
  | .ifc _ v => noRefs v
  | _ => false
def noRefsL : List PV → Bool
  | [] => true
  | v :: l => noRefs v && noRefsL l
end
/-- what an operation comes to: its value, what it changes in the own heap, how many new numbers it takes -/
abbrev MR := Option (PV × List (Nat × Option PObj) × Nat)
def MR.v (x : Option PV) : MR := x.map fun v => (v, [], 0)
/-- a field of a struct's value -/
def fieldOf (cs : List PV) (off k ag : Nat) : Option PV :=
  if ag = 1 then (if off + k ≤ cs.length then some (.agg ((cs.drop off).take k)) else none) else cs[off]?
def appendTo (bytes : Nat) (zero : PV) (h : Heap) (nx : Nat) (x : PV) (new : List PV) : MR :=
  match x with
  | .isl full sz es =>
    if new.isEmpty then some (x, [], 0) else
    if full = true ∧ (es.isEmpty ∨ sz = zero.cells.length) ∧ okBytes ((if es.isEmpty then new.length else 2 * (es.length + new.length) + 1000) * bytes) = true then
      some (.msl nx 0 (es.length + new.length) (es.length + new.length), [(nx, some (.arr zero.cells.length (es ++ new)))], 1)
    else none
  | .msl id off len cp =>
    if new.isEmpty then some (x, [], 0) else
    match harr h id with
    | some (false, sz, es) =>
      if len + new.length ≤ cp ∧ off + cp ≤ es.length ∧ sz = zero.cells.length then
        some (.msl id off (len + new.length) cp, [(id, some (.arr sz (es.take (off + len) ++ new ++ es.drop (off + len + new.length))))], 0)
      else if off + len ≤ es.length ∧ ((es.isEmpty = true ∧ sz = 0) ∨ sz = zero.cells.length) ∧ okBytes ((2 * (len + new.length) + 1000) * bytes) = true then
        some (.msl nx 0 (len + new.length) (len + new.length), [(id, none), (nx, some (.arr zero.cells.length ((es.drop off).take len ++ new)))], 1)
      else none
    | _ => none
  | _ => none
def copyTo (h : Heap) (k : Nat) (x : PV) (src : List PV) : MR :=
  match x with
  | .msl id off len _ =>
    if len = 0 then some (.int .i64 0, [], 0) else
    match harr h id with
    | some (false, sz, es) =>
      if off + len ≤ es.length ∧ k = sz then
        some (.int .i64 (min src.length len : Nat), [(id, some (.arr sz (es.take off ++ src.take (min src.length len) ++ es.drop (off + min src.length len))))], 0)
      else none
    | _ => none
  | _ => none
def sliceOf (h : Heap) (k : Nat) (x : PV) (lo : Option Nat) (hi mx : Option (Option Nat)) : Option PV :=
  match lo, x with
  | some l, .isl full sz es =>
    if !es.isEmpty && k != sz then none else
    match hi, mx with
    | none, none => if l ≤ es.length then some (.isl full sz (es.drop l)) else none
    | some (some u), none => if l ≤ u ∧ u ≤ es.length then some (.isl (full && u == es.length) sz ((es.drop l).take (u - l))) else none
    | some (some u), some (some m) => if l ≤ u ∧ u ≤ m ∧ m ≤ es.length then some (.isl (u == m) sz ((es.drop l).take (u - l))) else none
    | _, _ => none
  | some l, .msl id off len cp =>
    match harr h id with
    | none => none
    | some (_, sz, _) =>
    if k ≠ sz then none else
    match hi, mx with
    | none, none => if l ≤ len ∧ len ≤ cp then some (.msl id (off + l) (len - l) (cp - l)) else none
    | some (some u), none => if l ≤ u ∧ u ≤ cp then some (.msl id (off + l) (u - l) (cp - l)) else none
    | some (some u), some (some m) => if l ≤ u ∧ u ≤ m ∧ m ≤ cp then some (.msl id (off + l) (u - l) (m - l)) else none
    | _, _ => none
  | _, _ => none
def hiNat (fr : Fr) : Option Opd → Option (Option Nat)
  | none => none
  | some x => some (natOf (x.get fr))
def mop (fr : Fr) (h : Heap) (nx : Nat) : POp → MR
  | .mv x => some (x.get fr, [], 0)
  | .pick c a b => match c.get fr with
    | .bool t => some (if t then a.get fr else b.get fr, [], 0)
    | _ => none
  | .alloc z => some (.mptr nx 0 0, [(nx, some (.arr z.cells.length [z]))], 1)
  | .box k x => if okv (x.get fr) = true ∧ (x.get fr).cells.length = k then some (.mptr nx 0 0, [(nx, some (.arr k [x.get fr]))], 1) else none
  | .build zero parts => MR.v ((fillCells zero (parts.map fun (o, k, x) => (o, k, x.get fr))).map .agg)
  | .lits sz len zero parts =>
    match setAll sz (List.replicate len zero) (parts.map fun (i, x) => (i, x.get fr)) with
    | some es => some (.msl nx 0 len len, [(nx, some (.arr sz es))], 1)
    | none => none
  | .load k ag a => MR.v (ldv h k ag (a.get fr))
  | .store k a x =>
    match a.get fr with
    | .mptr id ix off =>
      match harr h id with
      | some (false, sz, es) =>
        match es[ix]? with
        | some e => if okv (x.get fr) = true ∧ (x.get fr).cells.length = k then
            match putCells e off (x.get fr).cells with
            | some e' => some (.tup [], [(id, some (.arr sz (es.set ix e')))], 0)
            | none => none
          else none
        | none => none
      | _ => none
    | _ => none
  | .nilCheck x => match x.get fr with
    | .mptr a b c => some (.mptr a b c, [], 0)
    | .iptr c => some (.iptr c, [], 0)
    | _ => none
  | .bin op x y => MR.v (pbin op (x.get fr) (y.get fr))
  | .eq kk neg x y => MR.v ((peq kk (x.get fr) (y.get fr)).map fun b => .bool (if neg then !b else b))
  | .un op x => MR.v (pun op (x.get fr))
  | .conv k x => match x.get fr with
    | .int _ n => some (.int k (k.wrap n), [], 0)
    | _ => none
  | .faddr off x => match x.get fr with
    | .mptr id ix o => some (.mptr id ix (o + off), [], 0)
    | .iptr cs => some (.iptr (cs.drop off), [], 0)
    | _ => none
  | .iaddr sz x i => match natOf (i.get fr), x.get fr with
    | some i, .isl _ sz' es => if sz = sz' then MR.v ((es[i]?).map fun e => .iptr e.cells) else none
    | some i, .msl id off len cp => match harr h id with
      | some (_, sz', _) => if sz = sz' ∧ i < len then some (.mptr id (off + i) 0, [], 0) else none
      | none => none
    | _, _ => none
  | .aaddr n sz x i => match natOf (i.get fr), x.get fr with
    | some i, .mptr id ix o => if i < n then some (.mptr id ix (o + i * sz), [], 0) else none
    | some i, .iptr cs => if i < n then some (.iptr (cs.drop (i * sz)), [], 0) else none
    | _, _ => none
  | .sidx x i => match natOf (i.get fr), x.get fr with
    | some i, .str s => MR.v ((s[i]?).map fun b => .int .u8 b.toNat)
    | _, _ => none
  | .slice k x lo hi mx => MR.v (sliceOf h k (x.get fr) (optNat fr 0 lo) (hiNat fr hi) (hiNat fr mx))
  | .ssub x lo hi => match x.get fr with
    | .str s => match optNat fr 0 lo, optNat fr s.size hi with
      | some l, some u => if l ≤ u ∧ u ≤ s.size then some (.str (s.extract l u), [], 0) else none
      | _, _ => none
    | _ => none
  | .mkmap => some (.map nx, [(nx, some (.map [] 0))], 1)
  | .look kk ok zero m k => if (keyEq kk (k.get fr) (k.get fr)).isNone then none else match m.get fr with
    | .nilm => some (if ok then .tup [zero, .bool false] else zero, [], 0)
    | .map id => match h.get id with
      | some ⟨_, .map es _⟩ => match findE kk (k.get fr) es 0 with
        | some (some (_, v, _)) => some (if ok then .tup [v, .bool true] else v, [], 0)
        | some none => some (if ok then .tup [zero, .bool false] else zero, [], 0)
        | none => none
      | _ => none
    | _ => none
  | .mupd kk m k v => if (keyEq kk (k.get fr) (k.get fr)).isNone then none else match m.get fr with
    | .map id => match h.get id with
      | some ⟨false, .map es clk⟩ => match findE kk (k.get fr) es 0 with
        | some (some (i, _, b)) => some (.tup [], [(id, some (.map (es.set i (k.get fr, v.get fr, b)) clk))], 0)
        | some none => some (.tup [], [(id, some (.map (es ++ [(k.get fr, v.get fr, clk)]) (clk + 1)))], 0)
        | none => none
      | _ => none
    | _ => none
  | .ment kk zero m k => if (keyEq kk (k.get fr) (k.get fr)).isNone then none else match m.get fr with
    | .map id => match h.get id with
      | some ⟨false, .map es clk⟩ => match findE kk (k.get fr) es 0 with
        | some (some (i, v, b)) => some (.tup [v, .int .i64 b], [(id, some (.map (es.set i (k.get fr, v, b)) clk))], 0)
        | some none => some (.tup [zero, .int .i64 clk], [(id, some (.map (es ++ [(k.get fr, zero, clk)]) (clk + 1)))], 0)
        | none => none
      | _ => none
    | _ => none
  | .mest m s v => match m.get fr, s.get fr with
    | .map id, .int _ b => match h.get id with
      | some ⟨false, .map es clk⟩ => match findB b es 0 with
        | some i => match es[i]? with
          | some (k, _, b') => some (.tup [], [(id, some (.map (es.set i (k, v.get fr, b')) clk))], 0)
          | none => none
        | none => none
      | _ => none
    | _, _ => none
  | .ext x i => match x.get fr with
    | .tup vs => if i < 1000000 then MR.v vs[i]? else none
    | .agg cs => if i < 1000000 then none else MR.v (fieldOf cs ((i - 1000000) / 2000) ((i - 1000000) / 2 % 1000) (i % 2))
    | _ => none
  | .mkfn f first cap => some (.fn f (first.map (·.get fr)) (cap.map (·.get fr)), [], 0)
  | .mkifc t x => some (.ifc t (x.get fr), [], 0)
  | .len k x => match k, x.get fr with
    | 0, .str s => some (.int .i64 s.size, [], 0)
    | 1, .isl _ _ es => some (.int .i64 es.length, [], 0)
    | 1, .msl _ _ n _ => some (.int .i64 n, [], 0)
    | 2, .nilm => some (.int .i64 0, [], 0)
    | 2, .map id => match h.get id with
      | some ⟨_, .map es _⟩ => some (.int .i64 es.length, [], 0)
      | _ => none
    | _, _ => none
  | .clen n => some (.int .i64 n, [], 0)
  | .app bytes zero x y => match elems h zero.cells.length (y.get fr) with
    | some new => appendTo bytes zero h nx (x.get fr) new
    | none => none
  | .copy k x y => match elems h k (y.get fr) with
    | some src => copyTo h k (x.get fr) src
    | none => none
  | .clear zero x => match x.get fr with
    | .isl _ _ [] => some (.tup [], [], 0)
    | .msl _ _ 0 _ => some (.tup [], [], 0)
    | .msl id off len _ => match harr h id with
      | some (false, sz, es) => if off + len ≤ es.length ∧ sz = zero.cells.length then
          some (.tup [], [(id, some (.arr sz (es.take off ++ List.replicate len zero ++ es.drop (off + len))))], 0) else none
      | _ => none
    | _ => none
  | .clearm x => match x.get fr with
    | .nilm => some (.tup [], [], 0)
    | .map id => match h.get id with
      | some ⟨false, .map _ clk⟩ => some (.tup [], [(id, some (.map [] clk))], 0)
      | _ => none
    | _ => none
  | .maxi x y => match x.get fr, y.get fr with
    | .int k x, .int _ y => some (.int k (if y > x then y else x), [], 0)
    | _, _ => none
  | .mini x y => match x.get fr, y.get fr with
    | .int k x, .int _ y => some (.int k (if y < x then y else x), [], 0)
    | _, _ => none
  | .mkslice sz bytes zero n c => match natOf (n.get fr), natOf (c.get fr) with
    | some n, some c => if n ≤ c ∧ c < 9223372036854775808 ∧ c * bytes ≤ 281474976710656 then
        some (.msl nx 0 n c, [(nx, some (.arr sz (List.replicate c zero)))], 1) else none
    | _, _ => none
  | .panic _ | .call .. | .callv .. | .dfr .. => none
/-! ### calls -/
inductive Out where
  | ret (v : PV)
  | pan (v : PV)
  deriving Inhabited
/-- a call: the function, its arguments, the own heap, the next number -/
abbrev CallF := FuncId → List PV → Heap → Nat → Option (Out × Heap × Nat)
/-- a call that runs by itself: its arguments and its result are data -/
def isoCall (call : CallF) (f : FuncId) (args : List PV) (h : Heap) : Option (PV × Bool) :=
  match reifyL (deref h deep) args with
  | none => none
  | some as =>
    match call f as .e 0 with
    | some (.ret v, h', _) =>
      match reify h' v with
      | some r => some (r, noRefs r || immL args)
      | none => none
    | _ => none
/- the numbers that a value leads to -/
mutual
def leads (f : PV → List Nat) : PV → List Nat
  | .agg cs => leadsL f cs
  | .tup cs => leadsL f cs
  | .iptr cs => leadsL f cs
  | .isl _ _ es => leadsL f es
  | .mptr id ix off => f (.mptr id ix off)
  | .msl id off len cp => f (.msl id off len cp)
  | .fn _ a b => leadsL f a ++ leadsL f b
  | .ifc _ v => leads f v
  | _ => []
def leadsL (f : PV → List Nat) : List PV → List Nat
  | [] => []
  | v :: l => leads f v ++ leadsL f l
end
def leadsTo (h : Heap) : Nat → PV → List Nat
  | 0, _ => []
  | n + 1, .mptr id ix off => id :: (match harr h id with
      | some (_, _, es) => match es[ix]? with
        | some e => leadsL (leadsTo h n) (e.cells.drop off)
        | none => []
      | none => [])
  | n + 1, .msl id off len cp => id :: (match harr h id with
      | some (_, _, es) => leadsL (leadsTo h n) ((es.drop off).take len)
      | none => [])
  | _ + 1, _ => []
def leadL (h : Heap) (l : List PV) : List Nat := leadsL (leadsTo h deep) l
inductive OpOut where
  | val (v : PV) (h : Heap) (nx : Nat)
  | pan (v : PV) (h : Heap) (nx : Nat)
  | dfr (f : FuncId) (args : List PV)
/-- given contracts; true: a slice that nobody else has -/
abbrev ExtF := FuncId → Option (Bool × (List PV → Option PV))
def extCall (ext : ExtF) (f : FuncId) (args : List PV) (h : Heap) : Option (PV × Bool) :=
  match ext f, reifyL (deref h deep) args with
  | some (false, g), some as => match g as with
    | some r => if imm r then some (r, noRefs r || immL args) else none
    | none => none
  | _, _ => none
def ownCall (ext : ExtF) (f : FuncId) (args : List PV) (h : Heap) : Option (Nat × List PV) :=
  match ext f, reifyL (deref h deep) args with
  | some (true, g), some as => match g as with
    | some (.isl full sz es) => if immL es && (noRefsL es || immL args) && (full || !es.isEmpty) then some (if es.isEmpty then 0 else sz, es) else none
    | _ => none
  | _, _ => none
/- the other heap's things from a number on -/
def hcopy (h h' : Heap) (nx : Nat) : Nat → Heap
  | 0 => h
  | k + 1 => hcopy (h.put nx (h'.get nx)) h' (nx + 1) k
def callRun (call : CallF) (ext : ExtF) (m : Mode) (f : FuncId) (args : List PV) (h : Heap) (nx : Nat) : Option OpOut :=
  match m with
  | .iso => match isoCall call f args h with
    | some (r, true) => some (.val r h nx)
    | some (r, false) => some (.val r (hfrzs h (leadL h args)) nx)
    | none => none
  | .ext => match extCall ext f args h with
    | some (r, true) => some (.val r h nx)
    | some (r, false) => some (.val r (hfrzs h (leadL h args)) nx)
    | none => none
  | .own => (ownCall ext f args h).map fun (sz, es) => .val (.msl nx 0 es.length es.length) (hset h nx (some (.arr sz es))) (nx + 1)
  | .inn => if immL args then (match call f args .e nx with
      | some (.ret v, h', nx') => if nx ≤ nx' then some (.val v (hcopy h h' nx (nx' - nx)) nx') else none
      | _ => none) else none
  | .inl => match call f args h nx with
    | some (.ret v, h', nx') => if nx ≤ nx' then some (.val v h' nx') else none
    | some (.pan v, h', nx') => some (.pan v h' nx')
    | none => none
def isIfc : PV → Bool
  | .ifc .. => true
  | _ => false
def opRun (call : CallF) (ext : ExtF) (fr : Fr) (h : Heap) (nx : Nat) : POp → Option OpOut
  | .panic x => if isIfc (x.get fr) then some (.pan (x.get fr) h nx) else none
  | .dfr f args => some (.dfr f (args.map (·.get fr)))
  | .call m f args => callRun call ext m f (args.map (·.get fr)) h nx
  | .callv m g args => match g.get fr with
    | .fn f a b => callRun call ext m f (a ++ args.map (·.get fr) ++ b) h nx
    | _ => none
  | op => (mop fr h nx op).map fun (v, ups, c) => .val v (hsets h ups) (nx + c)
structure S where
  fr : Fr
  h : Heap
  nx : Nat
  df : List (FuncId × List PV)
inductive PExit where
  | normal
  | exit (id : Nat)
  | ret
  | pan (v : PV)
def Fr.dst (fr : Fr) (d : Option Nat) (v : PV) : Fr :=
  match d with
  | some d => Fr.set fr d v
  | none => fr
/-- is an operation wanted? (nobody can tell: none) -/
def want (fr : Fr) : Option (Nat × Bool) → Option Bool
  | none => some true
  | some (t, b) => match Fr.at fr t with
    | .bool c => some (c == b)
    | .tup [] => some false
    | _ => none
def ops (call : CallF) (ext : ExtF) : List PG → S → Option (PExit × S)
  | [], s => some (.normal, s)
  | g :: l, s => match want s.fr g.guard with
    | none => none
    | some false => ops call ext l { s with fr := Fr.dst s.fr g.dst (.tup []) }
    | some true => match opRun call ext s.fr s.h s.nx g.op with
      | none => none
      | some (.val v h nx) => ops call ext l { s with fr := Fr.dst s.fr g.dst v, h, nx }
      | some (.pan v h nx) => some (.pan v, { s with h, nx })
      | some (.dfr f args) => ops call ext l { s with fr := Fr.dst s.fr g.dst (.tup []), df := (f, args) :: s.df }
/-! ### regions that draw their order: the text's own order; which operations touch what -/
structure Touch where
  t : Option (List Nat)
  d : Option (List Nat)
  f : List Nat
def clashes : Option (List Nat) → Option (List Nat) → Bool
  | some [], _ => false
  | _, some [] => false
  | some a, some b => a.any b.contains
  | _, _ => true
def Touch.clash (a b : Touch) : Bool := clashes a.d b.t || clashes b.d a.t || clashes a.d b.d || clashes a.d (some b.f) || clashes b.d (some a.f)
def idOf : PV → List Nat
  | .mptr id _ _ => [id]
  | .msl id _ _ _ => [id]
  | .map id => [id]
  | _ => []
def tch (fr : Fr) : POp → List Nat
  | .load _ _ a => idOf (a.get fr)
  | .store _ a _ => idOf (a.get fr)
  | .iaddr _ x _ => idOf (x.get fr)
  | .slice _ x _ _ _ => idOf (x.get fr)
  | .look _ _ _ m _ => idOf (m.get fr)
  | .mupd _ m _ _ => idOf (m.get fr)
  | .ment _ _ m _ => idOf (m.get fr)
  | .mest m _ _ => idOf (m.get fr)
  | .len _ x => idOf (x.get fr)
  | .app _ _ x y => idOf (x.get fr) ++ idOf (y.get fr)
  | .copy _ x y => idOf (x.get fr) ++ idOf (y.get fr)
  | .clear _ x => idOf (x.get fr)
  | .clearm x => idOf (x.get fr)
  | _ => []
def callTouch (m : Mode) (args : List PV) (h : Heap) (nx nx' : Nat) : Touch :=
  match m with
  | .inl => ⟨none, none, []⟩
  | .inn => ⟨some [], some ((List.range (nx' - nx)).map (nx + ·)), []⟩
  | .own => ⟨some (leadL h args), some [nx], []⟩
  | .ext => ⟨some (leadL h args), some [], leadL h args⟩
  | .iso => ⟨some (leadL h args), some [], leadL h args⟩
def touchOf (fr : Fr) (h : Heap) (nx nx' : Nat) : POp → Touch
  | .panic _ | .dfr .. => ⟨none, none, []⟩
  | .call m _ args => callTouch m (args.map (·.get fr)) h nx nx'
  | .callv m g args => match g.get fr with
    | .fn _ a b => callTouch m (a ++ args.map (·.get fr) ++ b) h nx nx'
    | _ => ⟨none, none, []⟩
  | op => ⟨some (tch fr op), (mop fr h nx op).map fun (_, ups, _) => ups.map (·.1), []⟩
/-- one operation of a region that draws: neither a panic nor a deferred call -/
def one (call : CallF) (ext : ExtF) (g : PG) (nx : Nat) (fr : Fr) (h : Heap) : Option (Fr × Heap × Nat × Touch) :=
  match want fr g.guard with
  | none => none
  | some false => some (Fr.dst fr g.dst (.tup []), h, nx, ⟨some [], some [], []⟩)
  | some true => match opRun call ext fr h nx g.op with
    | some (.val v h' nx') => some (Fr.dst fr g.dst v, h', nx', touchOf fr h nx nx' g.op)
    | _ => none
def drawn (call : CallF) (ext : ExtF) : List PG → Fr → Heap → Nat → Option (Fr × Heap × Nat × List Touch)
  | [], fr, h, nx => some (fr, h, nx, [])
  | g :: l, fr, h, nx => match one call ext g nx fr h with
    | some (fr', h', nx', t) => match drawn call ext l fr' h' nx' with
      | some (fr'', h'', nx'', ts) => some (fr'', h'', nx'', t :: ts)
      | none => none
    | none => none
def apart (ts : List Touch) : List (Nat × Nat) → Bool
  | [] => true
  | (i, j) :: l => (match ts[i]?, ts[j]? with
    | some a, some b => !a.clash b
    | _, _ => false) && apart ts l
def forget (live : List Nat) (fr : Fr) : Fr := Fr.of (live.map fun t => (t, Fr.at fr t))
def iter (f : S → Option (PExit × S)) (live : List Nat) : Nat → S → Option (PExit × S)
  | 0, _ => none
  | n + 1, s => match f { s with fr := forget live s.fr } with
    | some (.normal, s') => iter f live n s'
    | r => r
def exec (call : CallF) (ext : ExtF) (n : Nat) : PC → S → Option (PExit × S)
  | .skip, s => some (.normal, s)
  | .region l, s => ops call ext l s
  | .draw un l, s => match drawn call ext l s.fr s.h s.nx with
    | some (fr, h, nx, ts) => if apart ts un then some (.normal, { s with fr, h, nx }) else none
    | none => none
  | .seq a b, s => match exec call ext n a s with
    | some (.normal, s') => exec call ext n b s'
    | r => r
  | .cond c a b, s => match c.get s.fr with
    | .bool t => if t then exec call ext n a s else exec call ext n b s
    | _ => none
  | .block id a, s => match exec call ext n a s with
    | some (.exit id', s') => if id' = id then some (.normal, s') else some (.exit id', s')
    | r => r
  | .loop live a, s => iter (exec call ext n a) live n s
  | .exit id, s => some (.exit id, s)
  | .ret, s => some (.ret, s)
def Fr.argsFrom (i : Nat) : List PV → Fr → Fr
  | [], fr => fr
  | v :: l, fr => Fr.argsFrom (i + 1) l (Fr.set fr i v)
def Fr.args (args : List PV) : Fr := Fr.argsFrom 0 args .e
def resOf (fr : Fr) (h : Heap) : PRes → Option PV
  | .tmp t => some (Fr.at fr t)
  | .cell t k ag => ldv h k ag (Fr.at fr t)
def resL (fr : Fr) (h : Heap) : List PRes → Option (List PV)
  | [] => some []
  | r :: l => match resOf fr h r, resL fr h l with
    | some v, some l => some (v :: l)
    | _, _ => none
def resV (l : List PV) : PV :=
  match l with
  | [v] => v
  | l => .tup l
def runDf (call : CallF) : List (FuncId × List PV) → Heap → Nat → Option (Heap × Nat)
  | [], h, nx => some (h, nx)
  | (f, args) :: l, h, nx => match call f args h nx with
    | some (.ret _, h', nx') => runDf call l h' nx'
    | _ => none
def fin (calld : CallF) (pf : PF) (s : S) : Option (Out × Heap × Nat) :=
  match runDf calld s.df s.h s.nx with
  | some (h, nx) => (resL s.fr h pf.res).map fun l => (.ret (resV l), h, nx)
  | none => none
/-- a function: its callees, its deferred callees -/
def runFn (call calld : CallF) (ext : ExtF) (n : Nat) (pf : PF) (args : List PV) (h : Heap) (nx : Nat) : Option (Out × Heap × Nat) :=
  match exec call ext n pf.body ⟨Fr.args args, h, nx, []⟩ with
  | some (.normal, s) => fin calld pf s
  | some (.ret, s) => fin calld pf s
  | some (.pan v, s) => match s.df with
    | [] => some (.pan v, s.h, s.nx)
    | _ => none
  | _ => none
def noCall : CallF := fun _ _ _ _ => none
/-- the resolved program: its functions, and contracts that are given -/
structure Env where
  fns : FuncId → Option PF
  ext : ExtF
/-- a deferred call: of a function that defers nothing -/
def dcall (E : Env) (call : CallF) (n : Nat) : CallF := fun f args h nx =>
  match E.fns f with
  | some pf => runFn call noCall E.ext n pf args h nx
  | none => none
def callN (E : Env) : Nat → CallF
  | 0 => noCall
  | n + 1 => fun f args h nx => match E.fns f with
    | some pf => runFn (callN E n) (dcall E (callN E n) n) E.ext n pf args h nx
    | none => none
end Hp
end
section
namespace Hp
open Go
variable {α : Type}
theorem Tr.putF_more (x : Option α) : ∀ (f g : Nat) (t : Tr α) (i : Nat), i < f → i < g → Tr.putF x f t i = Tr.putF x g t i
  | 0, _, _, _, h, _ => by omega
  | _, 0, _, _, _, h => by omega
  | f + 1, g + 1, t, i, hf, hg => by
    by_cases h0 : i = 0
    · subst h0; cases t <;> simp [Tr.putF]
    · by_cases h1 : i % 2 = 1
      · have e := fun t => Tr.putF_more x f g t (i / 2) (by omega) (by omega)
        cases t <;> simp [Tr.putF, h0, h1, e]
      · have e := fun t => Tr.putF_more x f g t (i / 2 - 1) (by omega) (by omega)
        cases t <;> simp [Tr.putF, h0, h1, e]
theorem Tr.put_zero_e (x : Option α) : Tr.put .e 0 x = .n x .e .e := by simp [Tr.put, Tr.putF]
theorem Tr.put_zero_n (x v : Option α) (l r : Tr α) : Tr.put (.n v l r) 0 x = .n x l r := by simp [Tr.put, Tr.putF]
theorem Tr.put_odd_e (x : Option α) (i : Nat) (h : i % 2 = 1) : Tr.put .e i x = .n none (Tr.put .e (i / 2) x) .e := by
  have h0 : i ≠ 0 := by omega
  unfold Tr.put
  rw [Tr.putF_more x (i / 2 + 1) i .e (i / 2) (by omega) (by omega)]
  simp only [Tr.putF, h0, h, if_true, if_false]
theorem Tr.put_odd_n (x v : Option α) (l r : Tr α) (i : Nat) (h : i % 2 = 1) : Tr.put (.n v l r) i x = .n v (Tr.put l (i / 2) x) r := by
  have h0 : i ≠ 0 := by omega
  simp only [Tr.put, Tr.putF, h0, h, if_true, if_false]
  rw [Tr.putF_more x i (i / 2 + 1) l (i / 2) (by omega) (by omega)]
theorem Tr.put_even_e (x : Option α) (i : Nat) (h0 : i ≠ 0) (h : i % 2 ≠ 1) : Tr.put .e i x = .n none .e (Tr.put .e (i / 2 - 1) x) := by
  unfold Tr.put
  rw [Tr.putF_more x (i / 2 - 1 + 1) i .e (i / 2 - 1) (by omega) (by omega)]
  simp only [Tr.putF, h0, h, if_false]
theorem Tr.put_even_n (x v : Option α) (l r : Tr α) (i : Nat) (h0 : i ≠ 0) (h : i % 2 ≠ 1) : Tr.put (.n v l r) i x = .n v l (Tr.put r (i / 2 - 1) x) := by
  simp only [Tr.put, Tr.putF, h0, h, if_false]
  rw [Tr.putF_more x i (i / 2 - 1 + 1) r (i / 2 - 1) (by omega) (by omega)]
theorem Tr.get_put (x : Option α) : ∀ (i : Nat) (t : Tr α) (j : Nat), (Tr.put t i x).get j = if j = i then x else t.get j := by
  intro i
  induction i using Nat.strongRecOn with
  | _ i ih =>
    intro t j
    by_cases h0 : i = 0
    · subst h0
      cases t with
      | e => rw [Tr.put_zero_e]; by_cases hj : j = 0 <;> simp [Tr.get, hj]
      | n v l r => rw [Tr.put_zero_n]; by_cases hj : j = 0 <;> simp [Tr.get, hj]
    · by_cases h1 : i % 2 = 1
      · have e := ih (i / 2) (by omega)
        have key : ∀ (v : Option α) (l r : Tr α), Tr.get (.n v (Tr.put l (i / 2) x) r) j = if j = i then x else Tr.get (.n v l r) j := by
          intro v l r
          simp only [Tr.get]
          by_cases hj0 : j = 0
          · have : j ≠ i := by omega
            simp [hj0]; omega
          · by_cases hj1 : j % 2 = 1
            · simp only [hj0, hj1, if_true, if_false, e]
              by_cases hji : j = i
              · subst hji; simp
              · have : j / 2 ≠ i / 2 := by omega
                simp [this, hji]
            · have : j ≠ i := by intro he; subst he; exact hj1 h1
              simp [hj0, hj1, this]
        cases t with
        | e => rw [Tr.put_odd_e x i h1, key]; simp [Tr.get]
        | n v l r => rw [Tr.put_odd_n x v l r i h1, key]
      · have e := ih (i / 2 - 1) (by omega)
        have key : ∀ (v : Option α) (l r : Tr α), Tr.get (.n v l (Tr.put r (i / 2 - 1) x)) j = if j = i then x else Tr.get (.n v l r) j := by
          intro v l r
          simp only [Tr.get]
          by_cases hj0 : j = 0
          · have : j ≠ i := by omega
            simp [hj0]; omega
          · by_cases hj1 : j % 2 = 1
            · have : j ≠ i := by intro he; subst he; exact h1 hj1
              simp [hj0, hj1, this]
            · simp only [hj0, hj1, if_false, e]
              by_cases hji : j = i
              · subst hji; simp
              · have : j / 2 - 1 ≠ i / 2 - 1 := by omega
                simp [this, hji]
        cases t with
        | e => rw [Tr.put_even_e x i h0 h1, key]; simp [Tr.get]
        | n v l r => rw [Tr.put_even_n x v l r i h0 h1, key]
@[simp] theorem Tr.get_e (j : Nat) : (Tr.e : Tr α).get j = none := rfl
theorem Tr.get_put_same (t : Tr α) (i : Nat) (x : Option α) : (t.put i x).get i = x := by rw [Tr.get_put]; simp
theorem Tr.get_put_ne (t : Tr α) (i j : Nat) (x : Option α) (h : j ≠ i) : (t.put i x).get j = t.get j := by rw [Tr.get_put]; simp [h]
/-- two places: in either order -/
theorem Tr.put_comm (x y : Option α) : ∀ (i j : Nat) (t : Tr α), i ≠ j → (t.put i x).put j y = (t.put j y).put i x := by
  intro i
  induction i using Nat.strongRecOn with
  | _ i ih =>
    intro j t hne
    by_cases i0 : i = 0
    · subst i0
      have j0 : j ≠ 0 := fun h => hne h.symm
      by_cases j1 : j % 2 = 1
      · cases t <;> simp [Tr.put_zero_e, Tr.put_zero_n, Tr.put_odd_e, Tr.put_odd_n, j1]
      · cases t <;> simp [Tr.put_zero_e, Tr.put_zero_n, Tr.put_even_e, Tr.put_even_n, j0, j1]
    · by_cases j0 : j = 0
      · subst j0
        by_cases i1 : i % 2 = 1
        · cases t <;> simp [Tr.put_zero_e, Tr.put_zero_n, Tr.put_odd_e, Tr.put_odd_n, i1]
        · cases t <;> simp [Tr.put_zero_e, Tr.put_zero_n, Tr.put_even_e, Tr.put_even_n, i0, i1]
      · by_cases i1 : i % 2 = 1
        · by_cases j1 : j % 2 = 1
          · have e := fun t => ih (i / 2) (by omega) (j / 2) t (by omega)
            cases t <;> simp [Tr.put_odd_e, Tr.put_odd_n, i1, j1, e]
          · cases t <;> simp [Tr.put_odd_e, Tr.put_odd_n, Tr.put_even_e, Tr.put_even_n, i1, j0, j1]
        · by_cases j1 : j % 2 = 1
          · cases t <;> simp [Tr.put_odd_e, Tr.put_odd_n, Tr.put_even_e, Tr.put_even_n, i0, i1, j1]
          · have e := fun t => ih (i / 2 - 1) (by omega) (j / 2 - 1) t (by omega)
            cases t <;> simp [Tr.put_even_e, Tr.put_even_n, i0, i1, j0, j1, e]
theorem Tr.put_put (x y : Option α) : ∀ (i : Nat) (t : Tr α), (t.put i x).put i y = t.put i y := by
  intro i
  induction i using Nat.strongRecOn with
  | _ i ih =>
    intro t
    by_cases i0 : i = 0
    · subst i0; cases t <;> simp [Tr.put_zero_e, Tr.put_zero_n]
    · by_cases i1 : i % 2 = 1
      · have e := ih (i / 2) (by omega)
        cases t <;> simp [Tr.put_odd_e, Tr.put_odd_n, i1, e]
      · have e := ih (i / 2 - 1) (by omega)
        cases t <;> simp [Tr.put_even_e, Tr.put_even_n, i0, i1, e]
theorem Fr.at_set (fr : Fr) (d : Nat) (v : PV) (t : Nat) : Fr.at (Fr.set fr d v) t = if t = d then v else Fr.at fr t := by
  simp only [Fr.at, Fr.set, Tr.get_put]; split <;> simp
theorem Fr.at_e (t : Nat) : Fr.at .e t = .any := rfl
theorem Fr.set_comm (fr : Fr) (d e : Nat) (v u : PV) (h : d ≠ e) : Fr.set (Fr.set fr d v) e u = Fr.set (Fr.set fr e u) d v := Tr.put_comm _ _ _ _ _ h
end Hp
end
section
namespace Hp
open Go
def toPV : Nat → Value → Option PV
  | 0, _ => none
  | n + 1, v => match v with
    | .bool b => some (.bool b)
    | .int k i => some (.int k i)
    | .string s => some (.str s)
    | .pointer none => some .nilp
    | .slice none 0 0 => some (.isl true 0 [])
    | .map none => some .nilm
    | .nilFunc => some .nilf
    | .nilIface => some .nili
    | .agg cs => match cs.toList.mapM (toPV n) with
      | some l => if l.all (fun p => okv p && !isAgg p) then some (.agg l) else none
      | none => none
    | .tuple cs => (cs.toList.mapM (toPV n)).map .tup
    | _ => none
def rOpd : Operand → Option Opd
  | .tmp t => some (.t t)
  | .const v => (toPV 8 v).map .c
  | .func f => some (.c (.fn f [] []))
  | .global _ => none
def rOpds (l : List Operand) : Option (List Opd) := l.mapM rOpd
def rOpt : Option Operand → Option (Option Opd)
  | none => some none
  | some x => (rOpd x).map some
def isAggT (P : Program) (t : TypeId) : Option Bool :=
  match P.underlying t with
  | some (.struct _) | some (.array _ _) => some true
  | some _ => some false
  | none => none
def sizeT (P : Program) (t : TypeId) : Option Nat := (P.info? t).map (·.size)
/-- a type's zero value, as big as the type -/
def zeroT (P : Program) (t : TypeId) : Option PV :=
  match P.info? t with
  | some i => match i.zero with
    | some v => match toPV 8 v with
      | some p => if v.cells.size = i.size ∧ p.cells.length = i.size ∧ okv p = true then some p else none
      | none => none
    | none => none
  | none => none
def scalT (P : Program) (t : TypeId) : Option SK :=
  match P.underlying t with
  | some (.int _) => some .i
  | some .bool => some .b
  | some .string => some .s
  | _ => none
/-- a struct of named scalars that lie one behind the other -/
def scalFields (P : Program) : Nat → List Field → Option (List SK)
  | _, [] => some []
  | i, f :: l => match scalT P f.type, scalFields P (i + 1) l with
    | some k, some ks => if f.name != "_" && f.offset == i then some (k :: ks) else none
    | _, _ => none
def scalStruct (P : Program) (t : TypeId) : Option (List SK) :=
  match P.underlying t with
  | some (.struct fs) => if !P.stoodInHeld t && !P.eqGuardType P.depth t then scalFields P 0 fs.toList else none
  | _ => none
/-- a struct of scalars and of such structs -/
def nestFields (P : Program) : Nat → List Field → Option (List SK)
  | _, [] => some []
  | i, f :: l =>
    if f.name != "_" && f.offset == i then
      match scalT P f.type with
      | some k => (nestFields P (i + 1) l).map (k :: ·)
      | none => match scalStruct P f.type, sizeT P f.type with
        | some ks, some n => if n = ks.length then (nestFields P (i + n) l).map (ks ++ ·) else none
        | _, _ => none
    else none
def nestStruct (P : Program) (t : TypeId) : Option (List SK) :=
  match P.underlying t with
  | some (.struct fs) => if !P.stoodInHeld t && !P.eqGuardType P.depth t then nestFields P 0 fs.toList else none
  | _ => none
def eqT (P : Program) (t : TypeId) : Option EqK :=
  match P.underlying t with
  | some .bool => some (.sc .b)
  | some (.pointer _) => some .ptr
  | some (.func ..) => some .fn
  | some (.map ..) => some .mp
  | some (.struct _) => match scalStruct P t with
    | some ks => some (.st ks)
    | none => (nestStruct P t).map .ns
  | _ => none
def callable (P : Program) (f : FuncId) : Bool :=
  match P.funcs[f]? with
  | some fn => fn.name != "runtime.NumGoroutine" && fn.body.isSome
  | none => false
def placesT (P : Program) (t : TypeId) : Option (Nat → Option (Nat × Nat)) :=
  match P.underlying t with
  | some (.struct fs) => (fs.toList.mapM (fun f => (P.info? f.type).map fun i => (f.offset, i.size))).map fun l i => l.toArray[i]?
  | some (.array _ e) => (P.info? e).map fun ie i => some (i * ie.size, ie.size)
  | _ => none
def rParts (pl : Nat → Option (Nat × Nat)) : List (Nat × Operand) → Option (List (Nat × Nat × Opd))
  | [] => some []
  | (i, x) :: l => match pl i, rOpd x, rParts pl l with
    | some (o, k), some x, some l => some ((o, k, x) :: l)
    | _, _, _ => none
def rElems : List (Nat × Operand) → Option (List (Nat × Opd))
  | [] => some []
  | (i, x) :: l => match rOpd x, rElems l with
    | some x, some l => some ((i, x) :: l)
    | _, _ => none
def keyT (P : Program) (t : TypeId) : Option EqK :=
  match scalT P t with
  | some k => some (.sc k)
  | none => (scalStruct P t).map .st
structure Ann where
  mode : FuncId → Mode
  vmode : Mode
  nt : Nat
def rOp (P : Program) (A : Ann) (o : Oper) : Option POp :=
  match o.op with
  | .move x | .assign x => (rOpd x).map .mv
  | .pick c a b => match rOpd c, rOpd a, rOpd b with
    | some c, some a, some b => some (.pick c a b)
    | _, _, _ => none
  | .alloc t => match sizeT P t, zeroT P t with
    | some (_ + 1), some z => some (.alloc z)
    | _, _ => none
  | .box t x => match sizeT P t, rOpd x with
    | some (k + 1), some x => some (.box (k + 1) x)
    | _, _ => none
  | .build t ps => match zeroT P t, placesT P t with
    | some (.agg z), some pl => (rParts pl ps.toList).map (.build z)
    | _, _ => none
  | .buildSlice t len ps => match P.underlying t with
    | some (.slice e) => match sizeT P e, zeroT P e, rElems ps.toList with
      | some k, some z, some l => if len * k ≤ 16777216 ∧ 0 < k then some (.lits k len z l) else none
      | _, _, _ => none
    | _ => none
  | .load t a => match sizeT P t, isAggT P t, rOpd a with
    | some k, some g, some a => some (.load k g a)
    | _, _, _ => none
  | .store t a x => match sizeT P t, rOpd a, rOpd x with
    | some k, some a, some x => some (.store k a x)
    | _, _, _ => none
  | .nilCheck x => (rOpd x).map .nilCheck
  | .binOp op t x y _ => match rOpd x, rOpd y with
    | some x, some y => match P.underlying t with
      | some (.int _) | some .string => some (.bin op x y)
      | _ => match op with
        | .eql => (eqT P t).map fun k => .eq k false x y
        | .neq => (eqT P t).map fun k => .eq k true x y
        | _ => none
    | _, _ => none
  | .unOp op _ x => (rOpd x).map (.un op)
  | .convert s d x => match P.underlying s, P.underlying d, rOpd x with
    | some (.int _), some (.int k), some x => some (.conv k x)
    | _, _, _ => none
  | .fieldAddr s x f => match P.underlying s, rOpd x with
    | some (.struct fs), some x => match fs[f]? with
      | some f => match sizeT P f.type with
        | some (_ + 1) => some (.faddr f.offset x)
        | _ => none
      | none => none
    | _, _ => none
  | .indexAddr t x i => match P.underlying t, rOpd x, rOpd i with
    | some (.slice e), some x, some i => (sizeT P e).map fun k => .iaddr k x i
    | some (.array n e), some x, some i => (sizeT P e).map fun k => .aaddr n k x i
    | _, _, _ => none
  | .index t x i => match P.underlying t, rOpd x, rOpd i with
    | some .string, some x, some i => some (.sidx x i)
    | _, _, _ => none
  | .slice t x lo hi mx => match P.underlying t, rOpd x, rOpt lo, rOpt hi, rOpt mx with
    | some (.slice e), some x, some lo, some hi, some mx => (sizeT P e).map fun k => .slice k x lo hi mx
    | some .string, some x, some lo, some hi, some none => some (.ssub x lo hi)
    | _, _, _, _, _ => none
  | .makeMap _ none => some .mkmap
  | .lookup t m k ok => match P.underlying t, rOpd m, rOpd k with
    | some (.map kt e), some m, some k => (match keyT P kt, zeroT P e with
      | some kk, some z => some (.look kk ok z m k)
      | _, _ => none)
    | _, _, _ => none
  | .mapUpdate t m k x | .insert t m k x => match P.underlying t, rOpd m, rOpd k, rOpd x with
    | some (.map kt _), some m, some k, some x => (keyT P kt).map fun kk => .mupd kk m k x
    | _, _, _, _ => none
  | .mapEntry t m k => match P.underlying t, rOpd m, rOpd k with
    | some (.map kt e), some m, some k => (match keyT P kt, zeroT P e with
      | some kk, some z => some (.ment kk z m k)
      | _, _ => none)
    | _, _, _ => none
  | .entryStore _ m s x => match rOpd m, rOpd s, rOpd x with
    | some m, some s, some x => some (.mest m s x)
    | _, _, _ => none
  | .extract x i => if i < 1000000 then (rOpd x).map fun x => .ext x i else none
  | .field s x f => match P.underlying s, rOpd x with
    | some (.struct fs), some x => match fs[f]? with
      | some f => match sizeT P f.type, isAggT P f.type with
        | some k, some g => if k < 1000 then some (.ext x (1000000 + (f.offset * 2000 + k * 2 + if g then 1 else 0))) else none
        | _, _ => none
      | none => none
    | _, _ => none
  | .makeFunc (.func f) a b => match rOpds a.toList, rOpds b.toList with
    | some a, some b => if callable P f then some (.mkfn f a b) else none
    | _, _ => none
  | .makeInterface t x => match P.underlying t, rOpd x with
    | some (.interface _), _ => none
    | some _, some x => some (.mkifc t x)
    | _, _ => none
  | .makeSlice t l c => match P.underlying t with
    | some (.slice e) => match P.info? e, zeroT P e, rOpd l, rOpd c with
      | some i, some z, some l, some c => if 0 < i.size then some (.mkslice i.size i.bytes z l c) else none
      | _, _, _, _ => none
    | _ => none
  | .panic x => (rOpd x).map .panic
  | .call c => match c.callee with
    | .value (.func f) => if callable P f then (rOpds c.args.toList).map (.call (A.mode f) f) else none
    | .value x => match rOpd x, rOpds c.args.toList with
      | some x, some l => some (.callv A.vmode x l)
      | _, _ => none
    | .builtin .append => match c.argTypes.toList, c.args.toList with
      | [t, u], [x, y] => match P.underlying t, P.underlying u, rOpd x, rOpd y with
        | some (.slice e), some (.slice _), some x, some y => match P.info? e, zeroT P e with
          | some i, some z => if i.bytes = 0 ∨ i.size = 0 then none else some (.app i.bytes z x y)
          | _, _ => none
        | _, _, _, _ => none
      | _, _ => none
    | .builtin .len => match c.argTypes.toList, c.args.toList with
      | [t], [x] => match P.underlying t, rOpd x with
        | some .string, some x => some (.len 0 x)
        | some (.slice _), some x => some (.len 1 x)
        | some (.map ..), some x => some (.len 2 x)
        | some (.array n _), _ => some (.clen n)
        | _, _ => none
      | _, _ => none
    | .builtin .copy => match c.argTypes.toList, c.args.toList with
      | [t, u], [x, y] => match P.underlying t, P.underlying u, rOpd x, rOpd y with
        | some (.slice e), some (.slice _), some x, some y => (sizeT P e).map fun k => .copy k x y
        | _, _, _, _ => none
      | _, _ => none
    | .builtin .clear => match c.argTypes.toList, c.args.toList with
      | [t], [x] => match P.underlying t, rOpd x with
        | some (.slice e), some x => (zeroT P e).map fun z => .clear z x
        | some (.map ..), some x => some (.clearm x)
        | _, _ => none
      | _, _ => none
    | .builtin .max => match c.args.toList with
      | [x, y] => match rOpd x, rOpd y with
        | some x, some y => some (.maxi x y)
        | _, _ => none
      | _ => none
    | .builtin .min => match c.args.toList with
      | [x, y] => match rOpd x, rOpd y with
        | some x, some y => some (.mini x y)
        | _, _ => none
      | _ => none
    | _ => none
  | .defer c => match c.callee with
    | .value (.func f) => if callable P f then (rOpds c.args.toList).map (.dfr f) else none
    | _ => none
  | _ => none
/-! ### what lives, what is unordered -/
def addL (x : Nat) : List Nat → List Nat
  | [] => [x]
  | y :: l => if x = y then y :: l else if x < y then x :: y :: l else y :: addL x l
def uni (a b : List Nat) : List Nat := a.foldl (fun l x => addL x l) b
def tmpsOf (l : List Operand) : List Nat := l.filterMap fun | .tmp t => some t | _ => none
def lvOps : List Oper → List Oper → List Nat → List Nat
  | _, [], out => out
  | all, o :: l, out =>
    let out := lvOps all l out
    let out := match o.dst with | some d => out.filter (· != d) | none => out
    let out := uni (tmpsOf o.op.operands.toList) out
    match o.guard with
    | some (j, _) => match (all[j]?).bind (·.dst) with
      | some t => addL t out
      | none => out
    | none => out
def lv : Code → List Nat → List (Nat × List Nat) → List Nat → List Nat
  | .skip, out, _, _ => out
  | .region _ ops _, out, _, _ => lvOps ops.toList ops.toList out
  | .seq a b, out, env, rt => lv a (lv b out env rt) env rt
  | .cond c a b, out, env, rt => uni (tmpsOf [c]) (uni (lv a out env rt) (lv b out env rt))
  | .block id a, out, env, rt => lv a out ((id, out) :: env) rt
  | .loop a, _, env, rt => lv a [] env rt
  | .exit id, _, env, _ => ((env.find? fun x => x.1 == id).map (·.2)).getD []
  | .ret, _, _, rt => rt
  | .scope a, out, env, rt => lv a out env rt
  | .label _, out, _, _ => out
  | _, _, _, _ => []
def kindOf : POp → Nat
  | .load .. | .look .. | .len .. | .iaddr .. | .slice .. => 1
  | .call .iso .. | .callv .iso .. | .call .ext .. | .callv .ext .. => 1
  | .alloc _ | .box .. | .lits .. | .mkmap | .mkslice .. => 2
  | .store .. | .mupd .. | .ment .. | .mest .. | .app .. | .copy .. | .clear .. | .clearm .. | .call .. | .callv .. | .panic _ | .dfr .. => 3
  | _ => 0
def needs (a b : Nat) : Bool := (decide (2 ≤ a) && decide (1 ≤ b)) || (decide (2 ≤ b) && decide (1 ≤ a))
/- a look-up and an entry made for a later store: in either order -/
def meets : POp → POp → Bool
  | .look kk false (.int .i64 0) _ (.t k), .ment kk' (.int .i64 0) _ (.t k') => decide (kk = kk') && decide (k = k')
  | _, _ => false
/-! ### which temporaries an operation looks at -/
def Opd.tmps : Opd → List Nat
  | .t n => [n]
  | .c _ => []
def optT : Option Opd → List Nat
  | none => []
  | some x => x.tmps
def opdsT : List Opd → List Nat
  | [] => []
  | x :: l => x.tmps ++ opdsT l
def partsT : List (Nat × Nat × Opd) → List Nat
  | [] => []
  | (_, _, x) :: l => x.tmps ++ partsT l
def elemsT : List (Nat × Opd) → List Nat
  | [] => []
  | (_, x) :: l => x.tmps ++ elemsT l
def POp.tmps : POp → List Nat
  | .mv x | .box _ x | .load _ _ x | .nilCheck x | .un _ x | .conv _ x | .faddr _ x | .ext x _ | .mkifc _ x | .len _ x | .clear _ x | .clearm x | .panic x => x.tmps
  | .pick c a b => c.tmps ++ (a.tmps ++ b.tmps)
  | .alloc _ | .mkmap | .clen _ => []
  | .build _ ps => partsT ps
  | .lits _ _ _ ps => elemsT ps
  | .store _ a x | .bin _ a x | .eq _ _ a x | .iaddr _ a x | .aaddr _ _ a x | .sidx a x | .look _ _ _ a x | .ment _ _ a x | .app _ _ a x | .copy _ a x | .maxi a x | .mini a x | .mkslice _ _ _ a x => a.tmps ++ x.tmps
  | .slice _ x lo hi mx => x.tmps ++ (optT lo ++ (optT hi ++ optT mx))
  | .ssub x lo hi => x.tmps ++ (optT lo ++ optT hi)
  | .mupd _ m k v => m.tmps ++ (k.tmps ++ v.tmps)
  | .mest m s v => m.tmps ++ (s.tmps ++ v.tmps)
  | .mkfn _ a b => opdsT a ++ opdsT b
  | .call _ _ l => opdsT l
  | .callv _ g l => g.tmps ++ opdsT l
  | .dfr _ l => opdsT l
def PG.looks (g : PG) : List Nat :=
  match g.guard with
  | none => g.op.tmps
  | some (t, _) => t :: g.op.tmps
/-- neither writes what the other looks at or writes -/
def lexB (x y : PG) : Bool :=
  (match x.dst with
   | some d => !y.looks.contains d && y.dst != some d
   | none => true) &&
  (match y.dst with
   | some d => !x.looks.contains d
   | none => true)
def pairsOk (bf : Array Nat) (l : List PG) : Bool :=
  (List.range l.length).all fun j => (List.range j).all fun i => (bf.getD j 0).testBit i || lexB (l.getD i default) (l.getD j default)
def unordered (bf : Array Nat) (l : List POp) : List (Nat × Nat) :=
  (List.range l.length).flatMap fun j => (List.range j).filterMap fun i =>
    if !(bf.getD j 0).testBit i && needs (kindOf (l.getD i .mkmap)) (kindOf (l.getD j .mkmap)) && !meets (l.getD i .mkmap) (l.getD j .mkmap) then some (i, j) else none
def dstOk (nt : Nat) : Option Nat → Bool
  | some d => decide (d < nt)
  | none => true
def rPG (P : Program) (A : Ann) (all : Array Oper) (o : Oper) : Option PG :=
  match rOp P A o with
  | none => none
  | some op => if dstOk A.nt o.dst = false then none else match o.guard with
    | none => some ⟨o.dst, none, op⟩
    | some (j, b) => match (all[j]?).bind (·.dst) with
      | some t => some ⟨o.dst, some (t, b), op⟩
      | none => none
def rOps (P : Program) (A : Ann) (all : Array Oper) : List Oper → Option (List PG)
  | [] => some []
  | o :: l => match rPG P A all o, rOps P A all l with
    | some g, some l => some (g :: l)
    | _, _ => none
/-- what a region that draws must be: text order is one of its orders; no operation's place is another's operand unless it lies ahead -/
def drawOk (ops : Array Oper) : Bool :=
  let b := Region.before ops
  Region.temporariesOk ops b &&
  ops.zipIdx.all fun (o, i) => o.after.all (fun e => !Region.binds .any e || decide (e.on < i)) && match o.guard with
    | none => true
    | some (j, _) => (b.getD i 0).testBit j
def rCode (P : Program) (A : Ann) : Code → List Nat → List (Nat × List Nat) → List Nat → Option PC
  | .skip, _, _, _ => some .skip
  | .label _, _, _, _ => some .skip
  | .region _ ops d, _, _, _ => match rOps P A ops ops.toList with
    | none => none
    | some l =>
      if d then
        (if drawOk ops && pairsOk (Region.before ops) l then some (.draw (unordered (Region.before ops) (l.map (·.op))) l) else none)
      else some (.region l)
  | .seq a b, out, env, rt => match rCode P A a (lv b out env rt) env rt, rCode P A b out env rt with
    | some a, some b => some (.seq a b)
    | _, _ => none
  | .cond c a b, out, env, rt => match rOpd c, rCode P A a out env rt, rCode P A b out env rt with
    | some c, some a, some b => some (.cond c a b)
    | _, _, _ => none
  | .block id a, out, env, rt => (rCode P A a out ((id, out) :: env) rt).map (.block id)
  | .loop a, _, env, rt => (rCode P A a (lv a [] env rt) env rt).map (.loop (lv a [] env rt))
  | .exit id, _, _, _ => some (.exit id)
  | .ret, _, _, _ => some .ret
  | .scope a, out, env, rt => rCode P A a out env rt
  | _, _, _, _ => none
def rRes (P : Program) : List ResultVar → Option (List PRes)
  | [] => some []
  | .tmp t :: l => (rRes P l).map (.tmp t :: ·)
  | .cell a t :: l => match sizeT P t, isAggT P t, rRes P l with
    | some k, some g, some l => some (.cell a k g :: l)
    | _, _, _ => none
def resTmps (l : List ResultVar) : List Nat := l.foldr (fun r s => match r with | .tmp t => addL t s | .cell a _ => addL a s) []
def rFn (P : Program) (A : Ann) (fn : Func) : Option PF :=
  match fn.body, rRes P fn.results.toList with
  | some c, some res => match rCode P { A with nt := fn.ntmps } c (resTmps fn.results.toList) [] (resTmps fn.results.toList) with
    | some b => some ⟨fn.params.size, res, b⟩
    | none => none
  | _, _ => none
end Hp
end
section
namespace Hp
open Go
structure Loc where
  blk : Nat
  base : Nat
  sz : Nat
abbrev Rho := Nat → Option Loc
/-- N: blocks whose cells may change. -/
inductive Rel (w : World) (N : Nat → Prop) (ρ : Rho) : PV → Value → Prop
  | any (v : Value) : Rel w N ρ .any v
  | bool (b : Bool) : Rel w N ρ (.bool b) (.bool b)
  | int (k : IntKind) (n : Int) : Rel w N ρ (.int k n) (.int k n)
  | str (s : ByteArray) : Rel w N ρ (.str s) (.string s)
  | nilp : Rel w N ρ .nilp (.pointer none)
  | nilf : Rel w N ρ .nilf .nilFunc
  | nili : Rel w N ρ .nili .nilIface
  | nilm : Rel w N ρ .nilm (.map none)
  | agg (cs : List PV) (vs : Array Value) : vs.size = cs.length → (∀ i, i < cs.length → (vs.getD i undef).oneCell' = true) → (∀ i, i < cs.length → Rel w N ρ (cs.getD i .any) (vs.getD i undef)) → Rel w N ρ (.agg cs) (.agg vs)
  | tup (cs : List PV) (vs : Array Value) : vs.size = cs.length → (∀ i, i < cs.length → Rel w N ρ (cs.getD i .any) (vs.getD i undef)) → Rel w N ρ (.tup cs) (.tuple vs)
  | iptr (b o : Nat) (cs : List PV) (g : Nat → Value) : b < w.heap.size → ¬ N b → (∀ i, i < cs.length → w.cell? ⟨b, o + i, none⟩ = some (g i)) →
      (∀ i, i < cs.length → (g i).oneCell' = true) → (∀ i, i < cs.length → Rel w N ρ (cs.getD i .any) (g i)) → Rel w N ρ (.iptr cs) (.pointer (some ⟨b, o, none⟩))
  | isl0 (full : Bool) (sz : Nat) (a : Option Addr) (cap : Nat) : (full = true → cap = 0) → Rel w N ρ (.isl full sz []) (.slice a 0 cap)
  | isl (full : Bool) (sz : Nat) (es : List PV) (b o cap : Nat) (g : Nat → Nat → Value) : es.length ≤ cap → (full = true → cap = es.length) → b < w.heap.size → ¬ N b →
      (∀ i, i < es.length → (es.getD i .any).cells.length = sz) →
      (∀ i j, i < es.length → j < sz → w.cell? ⟨b, o + i * sz + j, none⟩ = some (g i j)) →
      (∀ i j, i < es.length → j < sz → (g i j).oneCell' = true) → (∀ i j, i < es.length → j < sz → Rel w N ρ ((es.getD i .any).cells.getD j .any) (g i j)) →
      Rel w N ρ (.isl full sz es) (.slice (some ⟨b, o, none⟩) es.length cap)
  | mptr (id ix off : Nat) (l : Loc) : ρ id = some l → Rel w N ρ (.mptr id ix off) (.pointer (some ⟨l.blk, l.base + ix * l.sz + off, none⟩))
  | msl0 (id off : Nat) (a : Option Addr) : Rel w N ρ (.msl id off 0 0) (.slice a 0 0)
  | msl (id off len cp cap : Nat) (l : Loc) (c : Array Value) (e : TypeId) (f : Nat × Nat) : ρ id = some l → len ≤ cap → cp ≤ cap →
      w.heap[l.blk]? = some (.cells c e f) → l.base + (off + cap) * l.sz ≤ c.size →
      Rel w N ρ (.msl id off len cp) (.slice (some ⟨l.blk, l.base + off * l.sz, none⟩) len cap)
  | map (id : Nat) (l : Loc) : ρ id = some l → Rel w N ρ (.map id) (.map (some l.blk))
  | fn (f : FuncId) (a b : List PV) (va vb : Array Value) : va.size = a.length → vb.size = b.length →
      (∀ i, i < a.length → Rel w N ρ (a.getD i .any) (va.getD i undef)) → (∀ i, i < b.length → Rel w N ρ (b.getD i .any) (vb.getD i undef)) →
      Rel w N ρ (.fn f a b) (.func (.func f) va vb)
  | ifc (t : TypeId) (p : PV) (v : Value) : Rel w N ρ p v → Rel w N ρ (.ifc t p) (.iface t v)
/-- What a later world owes an earlier one, so that what was said stays true. -/
structure Keep (w : World) (N : Nat → Prop) (ρ : Rho) (w' : World) (N' : Nat → Prop) (ρ' : Rho) : Prop where
  blk : ∀ b, ¬ N b → b < w.heap.size → w'.heap[b]? = w.heap[b]? ∧ ¬ N' b
  rho : ∀ id l, ρ id = some l → ρ' id = some l
  size : w.heap.size ≤ w'.heap.size
  row : ∀ (b : Nat) (c : Array Value) (e : TypeId) (f : Nat × Nat), w.heap[b]? = some (Obj.cells c e f) → ∃ (c' : Array Value) (f' : Nat × Nat), w'.heap[b]? = some (Obj.cells c' e f') ∧ c'.size = c.size
theorem cell_of_heap {w w' : World} {b o : Nat} (h : w'.heap[b]? = w.heap[b]?) : w'.cell? ⟨b, o, none⟩ = w.cell? ⟨b, o, none⟩ := by
  simp [World.cell?, h]
theorem lt_of_cell {w : World} {b o : Nat} {v : Value} (h : w.cell? ⟨b, o, none⟩ = some v) : b < w.heap.size :=
  World.block_lt_of_cell? w _ h
theorem Rel.keep {w w' : World} {N N' : Nat → Prop} {ρ ρ' : Rho} (hk : Keep w N ρ w' N' ρ') {p : PV} {v : Value}
    (h : Rel w N ρ p v) : Rel w' N' ρ' p v := by
  induction h with
  | any v => exact .any v
  | bool b => exact .bool b
  | int k n => exact .int k n
  | str s => exact .str s
  | nilp => exact .nilp
  | nilf => exact .nilf
  | nili => exact .nili
  | nilm => exact .nilm
  | agg cs vs hs h1 _ ih => exact .agg cs vs hs h1 ih
  | tup cs vs hs _ ih => exact .tup cs vs hs ih
  | iptr b o cs g hb hn hc h1 _ ih =>
    refine .iptr b o cs g (Nat.lt_of_lt_of_le hb hk.size) (hk.blk b hn hb).2 (fun i hi => ?_) h1 ih
    rw [cell_of_heap (hk.blk b hn hb).1]; exact hc i hi
  | isl0 full sz a cap h => exact .isl0 full sz a cap h
  | isl full sz es b o cap g h1 h2 hb hn hs hc h3 _ ih =>
    refine .isl full sz es b o cap g h1 h2 (Nat.lt_of_lt_of_le hb hk.size) (hk.blk b hn hb).2 hs (fun i j hi hj => ?_) h3 ih
    rw [cell_of_heap (hk.blk b hn hb).1]; exact hc i j hi hj
  | mptr id ix off l hl => exact .mptr id ix off l (hk.rho id l hl)
  | msl0 id off a => exact .msl0 id off a
  | msl id off len cp cap l c e f hl h1 h2 hb hsz =>
    obtain ⟨c', f', hb', hc'⟩ := hk.row _ _ _ _ hb
    exact .msl id off len cp cap l c' e f' (hk.rho id l hl) h1 h2 hb' (hc' ▸ hsz)
  | map id l hl => exact .map id l (hk.rho id l hl)
  | fn f a b va vb ha hb _ _ iha ihb => exact .fn f a b va vb ha hb iha ihb
  | ifc t p v _ ih => exact .ifc t p v ih
end Hp
end
section
namespace Hp
open Go
/-- what another owns: blocks; numbers that are taken already; from where on a run takes its own -/
abbrev Tb := List (Nat × Obj)
structure Fx (τ : Tb) where
  blk : Nat → Prop
  ids : Nat → Prop
  lo : Nat
variable {τ : Tb}
def Fx.used (F : Fx τ) (nx id : Nat) : Prop := F.ids id ∨ (F.lo ≤ id ∧ id < nx)
theorem Fx.used_succ {F : Fx τ} {nx id : Nat} (h : F.used nx id) : F.used (nx + 1) id := h.imp (fun h => h) fun h => ⟨h.1, by omega⟩
theorem Fx.used_self {F : Fx τ} {nx : Nat} (h : F.lo ≤ nx) : F.used (nx + 1) nx := .inr ⟨h, by omega⟩
theorem Fx.fresh {F : Fx τ} {nx : Nat} (hV : ¬ F.ids nx) : ¬ F.used nx nx := fun h => h.elim hV fun h => by omega
def own (h : Heap) (ρ : Rho) (b : Nat) : Prop := ∃ id x l, h.get id = some x ∧ x.fz = false ∧ ρ id = some l ∧ l.blk = b
def NN (F : Fx τ) (h : Heap) (ρ : Rho) (b : Nat) : Prop := F.blk b ∨ own h ρ b
def ObjRel (w : World) (N : Nat → Prop) (ρ : Rho) (id : Nat) : PObj → Prop
  | .arr sz es => (es = [] ∧ ρ id = none) ∨ ∃ (l : Loc) (c : Array Value) (e : TypeId), ρ id = some l ∧ l.sz = sz ∧ w.heap[l.blk]? = some (.cells c e (0, 0)) ∧
      0 < sz ∧ l.base + es.length * sz ≤ c.size ∧ (∀ i, i < es.length → (es.getD i .any).cells.length = sz) ∧
      ∀ i j, i < es.length → j < sz → Rel w N ρ ((es.getD i .any).cells.getD j .any) (c.getD (l.base + i * sz + j) undef) ∧ (c.getD (l.base + i * sz + j) undef).oneCell' = true
  | .map es clk => ∃ (l : Loc) (m : Array MapEntry), ρ id = some l ∧ w.heap[l.blk]? = some (.map m clk) ∧ m.size = es.length ∧
      ∀ (i : Nat) (k v : PV) (b : Nat), es[i]? = some (k, v, b) → ∃ me : MapEntry, m[i]? = some me ∧ Rel w N ρ k me.key ∧ Rel w N ρ v me.val ∧ me.born = b
structure Inv (w : World) (F : Fx τ) (ρ : Rho) (h : Heap) (nx : Nat) : Prop where
  obj : ∀ id x, h.get id = some x → ObjRel w (NN F h ρ) ρ id x.o
  fz : ∀ id x l, h.get id = some x → x.fz = true → ρ id = some l → ¬ NN F h ρ l.blk
  inj : ∀ i j x y l l', h.get i = some x → h.get j = some y → x.fz = false ∨ y.fz = false → ρ i = some l → ρ j = some l' → l.blk = l'.blk → i = j
  idh : ∀ id x, h.get id = some x → F.used nx id
  idr : ∀ id l, ρ id = some l → F.used nx id
  lo : F.lo ≤ nx
  blk : ∀ id l, ρ id = some l → l.blk < w.heap.size
  fF : ∀ b, F.blk b → b < w.heap.size
  disj : ∀ b, own h ρ b → ¬ F.blk b
  tb : ∀ x ∈ τ, w.heap[x.1]? = some x.2 ∧ ¬ own h ρ x.1
structure Grow (w : World) (h : Heap) (ρ : Rho) (w' : World) (h' : Heap) (ρ' : Rho) : Prop where
  os : w'.os = w.os
  tape : w'.tape = w.tape
  output : w'.output = w.output
  size : w.heap.size ≤ w'.heap.size
  keep : ∀ b, b < w.heap.size → ¬ own h ρ b → w'.heap[b]? = w.heap[b]?
  own : ∀ b, own h' ρ' b → own h ρ b ∨ w.heap.size ≤ b
  rho : ∀ id l, ρ id = some l → ρ' id = some l
  row : ∀ (b : Nat) (c : Array Value) (e : TypeId) (f : Nat × Nat), w.heap[b]? = some (Obj.cells c e f) → ∃ (c' : Array Value) (f' : Nat × Nat), w'.heap[b]? = some (Obj.cells c' e f') ∧ c'.size = c.size
theorem Grow.refl (w : World) (h : Heap) (ρ : Rho) : Grow w h ρ w h ρ :=
  ⟨rfl, rfl, rfl, Nat.le_refl _, fun _ _ _ => rfl, fun _ h => .inl h, fun _ _ h => h, fun _ c _ f h => ⟨c, f, h, rfl⟩⟩
theorem Grow.trans {w w' w'' : World} {h h' h'' : Heap} {ρ ρ' ρ'' : Rho} (a : Grow w h ρ w' h' ρ') (b : Grow w' h' ρ' w'' h'' ρ'') : Grow w h ρ w'' h'' ρ'' where
  os := b.os.trans a.os
  tape := b.tape.trans a.tape
  output := b.output.trans a.output
  size := Nat.le_trans a.size b.size
  keep x hx ho := (b.keep x (Nat.lt_of_lt_of_le hx a.size) fun h' => (a.own x h').elim ho fun hh => absurd hx (Nat.not_lt.2 hh)).trans (a.keep x hx ho)
  own x hx := (b.own x hx).elim (a.own x) fun hh => .inr (Nat.le_trans a.size hh)
  rho id l hl := b.rho id l (a.rho id l hl)
  row x c e f hx := by
    obtain ⟨c', f', h1, h2⟩ := a.row x c e f hx
    obtain ⟨c'', f'', h3, h4⟩ := b.row x c' e f' h1
    exact ⟨c'', f'', h3, h4.trans h2⟩
theorem Grow.toKeep {w w' : World} {h h' : Heap} {ρ ρ' : Rho} (F : Fx τ) (a : Grow w h ρ w' h' ρ') : Keep w (NN F h ρ) ρ w' (NN F h' ρ') ρ' where
  blk b hn hb := ⟨a.keep b hb fun ho => hn (.inr ho), fun hn' => hn'.elim (fun hf => hn (.inl hf)) fun ho => (a.own b ho).elim (fun ho => hn (.inr ho)) fun hh => absurd hb (Nat.not_lt.2 hh)⟩
  rho := a.rho
  size := a.size
  row := a.row
theorem Grow.rel {w w' : World} {h h' : Heap} {ρ ρ' : Rho} {F : Fx τ} (a : Grow w h ρ w' h' ρ') {p : PV} {v : Value} (hr : Rel w (NN F h ρ) ρ p v) : Rel w' (NN F h' ρ') ρ' p v :=
  hr.keep (a.toKeep F)
/-- a draw changes nothing -/
theorem Grow.drew (w : World) (h : Heap) (ρ : Rho) (n : Nat) : Grow w h ρ { w with drawn := n } h ρ :=
  ⟨rfl, rfl, rfl, Nat.le_refl _, fun _ _ _ => rfl, fun _ h => .inl h, fun _ _ h => h, fun _ c _ f h => ⟨c, f, h, rfl⟩⟩
theorem Rel.world {w w' : World} {N : Nat → Prop} {ρ : Rho} {p : PV} {v : Value} (hh : w'.heap = w.heap) (hr : Rel w N ρ p v) : Rel w' N ρ p v :=
  hr.keep ⟨fun b hn _ => ⟨by rw [hh], hn⟩, fun _ _ h => h, by rw [hh]; exact Nat.le_refl _, fun b c e f hb => ⟨c, f, by rw [hh]; exact hb, rfl⟩⟩
theorem ObjRel.keep {w w' : World} {N N' : Nat → Prop} {ρ ρ' : Rho} {id : Nat} {o : PObj} (hk : Keep w N ρ w' N' ρ') (hid : ρ' id = ρ id)
    (hb : ∀ l, ρ id = some l → w'.heap[l.blk]? = w.heap[l.blk]?) (h : ObjRel w N ρ id o) : ObjRel w' N' ρ' id o := by
  cases o with
  | arr sz es =>
    rcases h with ⟨h1, h2⟩ | ⟨l, c, e, hl, hs, hc, hp, hz, hn, hr⟩
    · exact .inl ⟨h1, hid.trans h2⟩
    · exact .inr ⟨l, c, e, hid.trans hl, hs, (hb l hl).trans hc, hp, hz, hn, fun i j hi hj => ⟨(hr i j hi hj).1.keep hk, (hr i j hi hj).2⟩⟩
  | map es clk =>
    obtain ⟨l, m, hl, hm, hz, hr⟩ := h
    refine ⟨l, m, hid.trans hl, (hb l hl).trans hm, hz, fun i k v b hi => ?_⟩
    obtain ⟨me, h1, h2, h3, h4⟩ := hr i k v b hi
    exact ⟨me, h1, h2.keep hk, h3.keep hk, h4⟩
theorem Inv.of_parts {w w' : World} {F : Fx τ} {ρ ρ' : Rho} {h h' : Heap} {nx nx' : Nat} (hi : Inv w F ρ h nx) (hg : Grow w h ρ w' h' ρ')
    (obj : ∀ id x, h'.get id = some x → (∃ y, h.get id = some y ∧ y.o = x.o ∧ ρ' id = ρ id ∧ ∀ l, ρ id = some l → w'.heap[l.blk]? = w.heap[l.blk]?) ∨ ObjRel w' (NN F h' ρ') ρ' id x.o)
    (fz : ∀ id x l, h'.get id = some x → x.fz = true → ρ' id = some l → ¬ NN F h' ρ' l.blk)
    (inj : ∀ i j x y l l', h'.get i = some x → h'.get j = some y → x.fz = false ∨ y.fz = false → ρ' i = some l → ρ' j = some l' → l.blk = l'.blk → i = j)
    (idh : ∀ id x, h'.get id = some x → F.used nx' id) (idr : ∀ id l, ρ' id = some l → F.used nx' id) (blk : ∀ id l, ρ' id = some l → l.blk < w'.heap.size) (lo : nx ≤ nx' := by omega)
    : Inv w' F ρ' h' nx' where
  lo := Nat.le_trans hi.lo lo
  obj id x hx := (obj id x hx).elim (fun ⟨y, h1, h0, h2, h3⟩ => (h0 ▸ hi.obj id y h1).keep (hg.toKeep F) h2 h3) fun h => h
  fz := fz
  inj := inj
  idh := idh
  idr := idr
  blk := blk
  fF b hb := Nat.lt_of_lt_of_le (hi.fF b hb) hg.size
  disj b hb hf := (hg.own b hb).elim (fun ho => hi.disj b ho hf) fun hh => absurd (hi.fF b hf) (Nat.not_lt.2 hh)
  tb x hx := by
    have hlt : x.1 < w.heap.size := by
      rcases Nat.lt_or_ge x.1 w.heap.size with hb | hb
      · exact hb
      · have := (hi.tb x hx).1; simp [Array.getElem?_eq_none hb] at this
    exact ⟨by rw [hg.keep x.1 hlt (hi.tb x hx).2]; exact (hi.tb x hx).1, fun ho => (hg.own _ ho).elim (hi.tb x hx).2 fun h => absurd hlt (Nat.not_lt.2 h)⟩
def updR (ρ : Rho) (id : Nat) (l : Loc) : Rho := fun i => if i = id then some l else ρ i
theorem updR_same (ρ : Rho) (id : Nat) (l : Loc) : updR ρ id l id = some l := by simp [updR]
theorem updR_ne (ρ : Rho) {id i : Nat} (l : Loc) (h : i ≠ id) : updR ρ id l i = ρ i := by simp [updR, h]
theorem hset_same (h : Heap) (id : Nat) (o : Option PObj) : (hset h id o).get id = o.map fun o => ⟨false, o⟩ := Tr.get_put_same ..
theorem hset_ne (h : Heap) {id i : Nat} (o : Option PObj) (hn : i ≠ id) : (hset h id o).get i = h.get i := Tr.get_put_ne _ _ _ _ hn
theorem heap_alloc_lt (w : World) (o : Obj) {b : Nat} (hb : b < w.heap.size) : (w.alloc o).heap[b]? = w.heap[b]? := by
  show (w.heap.push o)[b]? = w.heap[b]?
  rw [Array.getElem?_push, if_neg (Nat.ne_of_lt hb)]
theorem heap_alloc_new (w : World) (o : Obj) : (w.alloc o).heap[w.heap.size]? = some o := by
  show (w.heap.push o)[w.heap.size]? = some o
  simp
theorem lt_of_heap {w : World} {b : Nat} {o : Obj} (h : w.heap[b]? = some o) : b < w.heap.size := by
  rcases Nat.lt_or_ge b w.heap.size with hb | hb
  · exact hb
  · simp [Array.getElem?_eq_none hb] at h
/-- something new -/
theorem Inv.alloc {w : World} {F : Fx τ} {ρ : Rho} {h : Heap} {nx : Nat} (hi : Inv w F ρ h nx) (hV : ¬ F.ids nx) (o : Obj) (po : PObj) (sz : Nat)
    (hrow : ∀ N' ρ', Keep w (NN F h ρ) ρ (w.alloc o) N' ρ' → ρ' nx = some ⟨w.heap.size, 0, sz⟩ → ObjRel (w.alloc o) N' ρ' nx po) :
    Inv (w.alloc o) F (updR ρ nx ⟨w.heap.size, 0, sz⟩) (hset h nx (some po)) (nx + 1) ∧
    Grow w h ρ (w.alloc o) (hset h nx (some po)) (updR ρ nx ⟨w.heap.size, 0, sz⟩) := by
  have hnr : ρ nx = none := by
    cases hc : ρ nx with
    | none => rfl
    | some l => exact absurd (hi.idr nx l hc) (Fx.fresh hV)
  have hown : ∀ b, own (hset h nx (some po)) (updR ρ nx ⟨w.heap.size, 0, sz⟩) b → own h ρ b ∨ b = w.heap.size := by
    rintro b ⟨id, x, l, hx, hf, hl, hb⟩
    by_cases hid : id = nx
    · subst hid; rw [updR_same] at hl; cases hl; exact .inr hb.symm
    · rw [hset_ne _ _ hid] at hx; rw [updR_ne _ _ hid] at hl; exact .inl ⟨id, x, l, hx, hf, hl, hb⟩
  have hg : Grow w h ρ (w.alloc o) (hset h nx (some po)) (updR ρ nx ⟨w.heap.size, 0, sz⟩) := by
    refine ⟨rfl, rfl, rfl, by simp, fun b hb _ => heap_alloc_lt w o hb, fun b hb => (hown b hb).imp id fun h => Nat.le_of_eq h.symm, fun id l hl => ?_, fun b c e f hb => ⟨c, f, ?_, rfl⟩⟩
    · have hne : id ≠ nx := fun he => by subst he; rw [hnr] at hl; cases hl
      rw [updR_ne _ _ hne]; exact hl
    · rw [heap_alloc_lt w o (lt_of_heap hb)]; exact hb
  refine ⟨hi.of_parts hg ?_ ?_ ?_ ?_ ?_ ?_, hg⟩
  · intro id x hx
    by_cases hid : id = nx
    · subst hid
      rw [hset_same] at hx; cases hx
      exact .inr (hrow _ _ (hg.toKeep F) (updR_same ..))
    · rw [hset_ne _ _ hid] at hx
      exact .inl ⟨x, hx, rfl, updR_ne _ _ hid, fun l hl => heap_alloc_lt w o (hi.blk id l hl)⟩
  · intro id x l hx hf hl hn
    by_cases hid : id = nx
    · subst hid; rw [hset_same] at hx; cases hx; cases hf
    · rw [hset_ne _ _ hid] at hx; rw [updR_ne _ _ hid] at hl
      refine hn.elim (fun hF => hi.fz id x l hx hf hl (.inl hF)) fun ho => ?_
      rcases hown _ ho with ho | ho
      · exact hi.fz id x l hx hf hl (.inr ho)
      · exact absurd (hi.blk id l hl) (by omega)
  · intro i j x y l l' hx hy hfz hl hl' hb
    by_cases hid : i = nx
    · by_cases hjd : j = nx
      · rw [hid, hjd]
      · subst hid; rw [updR_same] at hl; cases hl; rw [updR_ne _ _ hjd] at hl'
        have := hi.blk j l' hl'; simp at hb; omega
    · rw [updR_ne _ _ hid] at hl
      by_cases hjd : j = nx
      · subst hjd; rw [updR_same] at hl'; cases hl'
        have := hi.blk i l hl; simp at hb; omega
      · rw [updR_ne _ _ hjd] at hl'; rw [hset_ne _ _ hid] at hx; rw [hset_ne _ _ hjd] at hy
        exact hi.inj i j x y l l' hx hy hfz hl hl' hb
  · intro id x hx
    by_cases hid : id = nx
    · subst hid; exact Fx.used_self hi.lo
    · rw [hset_ne _ _ hid] at hx; exact Fx.used_succ (hi.idh id x hx)
  · intro id l hl
    by_cases hid : id = nx
    · subst hid; exact Fx.used_self hi.lo
    · rw [updR_ne _ _ hid] at hl; exact Fx.used_succ (hi.idr id l hl)
  · intro id l hl
    by_cases hid : id = nx
    · subst hid; rw [updR_same] at hl; cases hl; simp
    · rw [updR_ne _ _ hid] at hl; exact Nat.lt_of_lt_of_le (hi.blk id l hl) (by simp)
def setBlk (w : World) (b : Nat) (o : Obj) : World := { w with heap := w.heap.setIfInBounds b o }
theorem setBlk_size (w : World) (b : Nat) (o : Obj) : (setBlk w b o).heap.size = w.heap.size := by simp [setBlk]
theorem setBlk_same (w : World) {b : Nat} (o : Obj) (hb : b < w.heap.size) : (setBlk w b o).heap[b]? = some o := by
  simp [setBlk, Array.getElem?_setIfInBounds, hb]
theorem setBlk_ne (w : World) {b b' : Nat} (o : Obj) (hb : b' ≠ b) : (setBlk w b o).heap[b']? = w.heap[b']? := by
  simp only [setBlk]; rw [Array.getElem?_setIfInBounds_ne (Ne.symm hb)]
/-- what one owns, changed; the old number stays, or gives way to a new one at the same block -/
theorem Inv.set {w : World} {F : Fx τ} {ρ : Rho} {h : Heap} {nx : Nat} (hi : Inv w F ρ h nx) {id : Nat} {x : HO} {l : Loc} (hx : h.get id = some x) (hf : x.fz = false)
    (hl : ρ id = some l) (o : Obj) (po : PObj)
    (hrow : ∀ (c : Array Value) (e : TypeId) (f : Nat × Nat), w.heap[l.blk]? = some (.cells c e f) → ∃ (c' : Array Value) (f' : Nat × Nat), o = .cells c' e f' ∧ c'.size = c.size)
    (hobj : ∀ N', Keep w (NN F h ρ) ρ (setBlk w l.blk o) N' ρ → ObjRel (setBlk w l.blk o) N' ρ id po) :
    Inv (setBlk w l.blk o) F ρ (hset h id (some po)) nx ∧ Grow w h ρ (setBlk w l.blk o) (hset h id (some po)) ρ := by
  have hb := hi.blk id l hl
  have hmine : own h ρ l.blk := ⟨id, x, l, hx, hf, hl, rfl⟩
  have hown : ∀ b, own (hset h id (some po)) ρ b → own h ρ b := by
    rintro b ⟨i, y, l', hy, hyf, hl', hb'⟩
    by_cases hid : i = id
    · subst hid; rw [hl] at hl'; cases hl'; exact hb' ▸ hmine
    · rw [hset_ne _ _ hid] at hy; exact ⟨i, y, l', hy, hyf, hl', hb'⟩
  have hg : Grow w h ρ (setBlk w l.blk o) (hset h id (some po)) ρ := by
    refine ⟨rfl, rfl, rfl, by rw [setBlk_size]; exact Nat.le_refl _, fun b _ ho => setBlk_ne w o fun he => ho (he ▸ hmine), fun b hb => .inl (hown b hb), fun _ _ h => h, fun b c e f hbc => ?_⟩
    by_cases he : b = l.blk
    · subst he
      obtain ⟨c', f', h1, h2⟩ := hrow c e f hbc
      exact ⟨c', f', by rw [setBlk_same w o hb, h1], h2⟩
    · exact ⟨c, f, by rw [setBlk_ne w o he]; exact hbc, rfl⟩
  refine ⟨hi.of_parts hg ?_ ?_ ?_ ?_ hi.idr ?_, hg⟩
  · intro i y hy
    by_cases hid : i = id
    · subst hid; rw [hset_same] at hy; cases hy
      exact .inr (hobj _ (hg.toKeep F))
    · rw [hset_ne _ _ hid] at hy
      exact .inl ⟨y, hy, rfl, rfl, fun l' hl' => setBlk_ne w o fun he => hid (hi.inj i id y x l' l hy hx (.inr hf) hl' hl he)⟩
  · intro i y l' hy hyf hl' hn
    by_cases hid : i = id
    · subst hid; rw [hset_same] at hy; cases hy; cases hyf
    · rw [hset_ne _ _ hid] at hy
      exact hi.fz i y l' hy hyf hl' (hn.imp (fun h => h) (hown _))
  · intro i j y z l' l'' hy hz hfz hl' hl'' hbb
    have g : ∀ i y, (hset h id (some po)).get i = some y → ∃ y', h.get i = some y' ∧ (y.fz = false → y'.fz = false) := by
      intro i y hy
      by_cases hid : i = id
      · subst hid; exact ⟨x, hx, fun _ => hf⟩
      · rw [hset_ne _ _ hid] at hy; exact ⟨y, hy, fun h => h⟩
    obtain ⟨y', hy', g1⟩ := g i y hy
    obtain ⟨z', hz', g2⟩ := g j z hz
    exact hi.inj i j y' z' l' l'' hy' hz' (hfz.imp g1 g2) hl' hl'' hbb
  · intro i y hy
    by_cases hid : i = id
    · subst hid; exact hi.idh i x hx
    · rw [hset_ne _ _ hid] at hy; exact hi.idh i y hy
  · intro i l' hl'; rw [setBlk_size]; exact hi.blk i l' hl'
theorem Inv.kill {w : World} {F : Fx τ} {ρ : Rho} {h : Heap} {nx : Nat} (hi : Inv w F ρ h nx) (id : Nat) :
    Inv w F ρ (hset h id none) nx ∧ Grow w h ρ w (hset h id none) ρ := by
  have hget : ∀ i y, (hset h id none).get i = some y → h.get i = some y := by
    intro i y hy
    by_cases hid : i = id
    · subst hid; rw [hset_same] at hy; cases hy
    · rw [hset_ne _ _ hid] at hy; exact hy
  have hown : ∀ b, own (hset h id none) ρ b → own h ρ b := fun b ⟨i, y, l, hy, hf, hl, hb⟩ => ⟨i, y, l, hget i y hy, hf, hl, hb⟩
  have hg : Grow w h ρ w (hset h id none) ρ :=
    ⟨rfl, rfl, rfl, Nat.le_refl _, fun _ _ _ => rfl, fun b hb => .inl (hown b hb), fun _ _ h => h, fun _ c _ f h => ⟨c, f, h, rfl⟩⟩
  exact ⟨hi.of_parts hg (fun i y hy => .inl ⟨y, hget i y hy, rfl, rfl, fun _ _ => rfl⟩) (fun i y l hy hf hl hn => hi.fz i y l (hget i y hy) hf hl (hn.imp (fun h => h) (hown _)))
    (fun i j y z l l' hy hz hfz => hi.inj i j y z l l' (hget i y hy) (hget j z hz) hfz) (fun i y hy => hi.idh i y (hget i y hy)) hi.idr hi.blk, hg⟩
theorem hfrz_get (h : Heap) (id i : Nat) : (hfrz h id).get i = if i = id then (h.get id).map (fun x => ⟨true, x.o⟩) else h.get i := Tr.get_put ..
theorem Inv.frz {w : World} {F : Fx τ} {ρ : Rho} {h : Heap} {nx : Nat} (hi : Inv w F ρ h nx) (id : Nat) :
    Inv w F ρ (hfrz h id) nx ∧ Grow w h ρ w (hfrz h id) ρ := by
  have hget : ∀ i y, (hfrz h id).get i = some y → ∃ y', h.get i = some y' ∧ y'.o = y.o ∧ (y.fz = false → y'.fz = false ∧ i ≠ id) ∧ (i ≠ id → y' = y) := by
    intro i y hy
    rw [hfrz_get] at hy
    by_cases hid : i = id
    · subst hid
      simp only [if_true] at hy
      cases hc : h.get i with
      | none => rw [hc] at hy; cases hy
      | some x => rw [hc] at hy; cases hy; exact ⟨x, rfl, rfl, (fun h => by cases h), fun h => absurd rfl h⟩
    · simp only [hid, if_false] at hy; exact ⟨y, hy, rfl, fun hf => ⟨hf, hid⟩, fun _ => rfl⟩
  have hown : ∀ b, own (hfrz h id) ρ b → own h ρ b := fun b ⟨i, y, l, hy, hf, hl, hb⟩ => by
    obtain ⟨y', h1, _, h3, _⟩ := hget i y hy
    exact ⟨i, y', l, h1, (h3 hf).1, hl, hb⟩
  have hg : Grow w h ρ w (hfrz h id) ρ :=
    ⟨rfl, rfl, rfl, Nat.le_refl _, fun _ _ _ => rfl, fun b hb => .inl (hown b hb), fun _ _ h => h, fun _ c _ f h => ⟨c, f, h, rfl⟩⟩
  refine ⟨hi.of_parts hg (fun i y hy => ?_) (fun i y l hy hf hl hn => ?_) (fun i j y z l l' hy hz hfz => ?_) (fun i y hy => ?_) hi.idr hi.blk, hg⟩
  · obtain ⟨y', h1, h2, _, _⟩ := hget i y hy
    exact .inl ⟨y', h1, h2, rfl, fun _ _ => rfl⟩
  · obtain ⟨y', h1, h2, _, h4⟩ := hget i y hy
    rcases hn with hF | ⟨j, z, l', hz, hzf, hl', hb⟩
    · by_cases hyf : y'.fz = true
      · exact hi.fz i y' l h1 hyf hl (.inl hF)
      · exact hi.disj l.blk ⟨i, y', l, h1, by simpa using hyf, hl, rfl⟩ hF
    · obtain ⟨z', g1, _, g3, g4⟩ := hget j z hz
      have hij := hi.inj j i z' y' l' l g1 h1 (.inl (g3 hzf).1) hl' hl hb
      subst hij
      rw [hz] at hy; cases hy; rw [hzf] at hf; cases hf
  · obtain ⟨y', h1, _, h3, _⟩ := hget i y hy
    obtain ⟨z', g1, _, g3, _⟩ := hget j z hz
    exact hi.inj i j y' z' l l' h1 g1 (hfz.imp (fun h => (h3 h).1) fun h => (g3 h).1)
  · obtain ⟨y', h1, _⟩ := hget i y hy
    exact hi.idh i y' h1
theorem Inv.frzs {w : World} {F : Fx τ} {ρ : Rho} {nx : Nat} : ∀ (l : List Nat) {h : Heap}, Inv w F ρ h nx → Inv w F ρ (hfrzs h l) nx ∧ Grow w h ρ w (hfrzs h l) ρ
  | [], h, hi => ⟨hi, .refl ..⟩
  | id :: l, h, hi => by
    obtain ⟨h1, h2⟩ := hi.frz id
    obtain ⟨h3, h4⟩ := Inv.frzs l h1
    exact ⟨h3, h2.trans h4⟩
/-- the block of an old number under a new one -/
theorem Inv.rebind {w : World} {F : Fx τ} {ρ : Rho} {h : Heap} {nx : Nat} (hi : Inv w F ρ h nx) (hV : ¬ F.ids nx) {id : Nat} {x : HO} {l l' : Loc} (hx : h.get id = some x) (hf : x.fz = false)
    (hl : ρ id = some l) (hll : l'.blk = l.blk) (o : Obj) (po : PObj)
    (hrow : ∀ (c : Array Value) (e : TypeId) (f : Nat × Nat), w.heap[l.blk]? = some (.cells c e f) → ∃ (c' : Array Value) (f' : Nat × Nat), o = .cells c' e f' ∧ c'.size = c.size)
    (hobj : ∀ N' ρ', Keep w (NN F h ρ) ρ (setBlk w l.blk o) N' ρ' → ρ' nx = some l' → ObjRel (setBlk w l.blk o) N' ρ' nx po) :
    Inv (setBlk w l.blk o) F (updR ρ nx l') (hset (hset h id none) nx (some po)) (nx + 1) ∧
    Grow w h ρ (setBlk w l.blk o) (hset (hset h id none) nx (some po)) (updR ρ nx l') := by
  have hb := hi.blk id l hl
  have hmine : own h ρ l.blk := ⟨id, x, l, hx, hf, hl, rfl⟩
  have hidnx : id ≠ nx := fun he => Fx.fresh hV (he ▸ hi.idh id x hx)
  have hget : ∀ i y, (hset (hset h id none) nx (some po)).get i = some y → (i = nx ∧ y = ⟨false, po⟩) ∨ (i ≠ nx ∧ i ≠ id ∧ h.get i = some y) := by
    intro i y hy
    by_cases h1 : i = nx
    · subst h1; rw [hset_same] at hy; cases hy; exact .inl ⟨rfl, rfl⟩
    · rw [hset_ne _ _ h1] at hy
      by_cases h2 : i = id
      · subst h2; rw [hset_same] at hy; cases hy
      · rw [hset_ne _ _ h2] at hy; exact .inr ⟨h1, h2, hy⟩
  have hnr : ρ nx = none := by
    cases hc : ρ nx with
    | none => rfl
    | some l => exact absurd (hi.idr nx l hc) (Fx.fresh hV)
  have hown : ∀ b, own (hset (hset h id none) nx (some po)) (updR ρ nx l') b → own h ρ b := by
    rintro b ⟨i, y, l'', hy, hyf, hl'', hb'⟩
    rcases hget i y hy with ⟨rfl, rfl⟩ | ⟨h1, h2, h3⟩
    · rw [updR_same] at hl''; cases hl''; exact hb' ▸ hll ▸ hmine
    · rw [updR_ne _ _ h1] at hl''; exact ⟨i, y, l'', h3, hyf, hl'', hb'⟩
  have hg : Grow w h ρ (setBlk w l.blk o) (hset (hset h id none) nx (some po)) (updR ρ nx l') := by
    refine ⟨rfl, rfl, rfl, by rw [setBlk_size]; exact Nat.le_refl _, fun b _ ho => setBlk_ne w o fun he => ho (he ▸ hmine), fun b hb => .inl (hown b hb), fun i l'' hl'' => ?_, fun b c e f hbc => ?_⟩
    · have hne : i ≠ nx := fun he => by subst he; rw [hnr] at hl''; cases hl''
      rw [updR_ne _ _ hne]; exact hl''
    · by_cases he : b = l.blk
      · subst he
        obtain ⟨c', f', h1, h2⟩ := hrow c e f hbc
        exact ⟨c', f', by rw [setBlk_same w o hb, h1], h2⟩
      · exact ⟨c, f, by rw [setBlk_ne w o he]; exact hbc, rfl⟩
  refine ⟨hi.of_parts hg ?_ ?_ ?_ ?_ ?_ ?_, hg⟩
  · intro i y hy
    rcases hget i y hy with ⟨rfl, rfl⟩ | ⟨h1, h2, h3⟩
    · exact .inr (hobj _ _ (hg.toKeep F) (updR_same ..))
    · exact .inl ⟨y, h3, rfl, updR_ne _ _ h1, fun l'' hl'' => setBlk_ne w o fun he => h2 (hi.inj i id y x l'' l h3 hx (.inr hf) hl'' hl he)⟩
  · intro i y l'' hy hyf hl'' hn
    rcases hget i y hy with ⟨rfl, rfl⟩ | ⟨h1, h2, h3⟩
    · cases hyf
    · rw [updR_ne _ _ h1] at hl''
      exact hi.fz i y l'' h3 hyf hl'' (hn.imp (fun h => h) (hown _))
  · intro i j y z l1 l2 hy hz hfz hl1 hl2 hbb
    rcases hget i y hy with ⟨rfl, rfl⟩ | ⟨h1, h2, h3⟩ <;> rcases hget j z hz with ⟨rfl, rfl⟩ | ⟨g1, g2, g3⟩
    · rfl
    · rw [updR_same] at hl1; cases hl1; rw [updR_ne _ _ g1] at hl2
      exact absurd (hi.inj id j x z l l2 hx g3 (.inl hf) hl hl2 (hll ▸ hbb)).symm g2
    · rw [updR_same] at hl2; cases hl2; rw [updR_ne _ _ h1] at hl1
      exact absurd (hi.inj i id y x l1 l h3 hx (.inr hf) hl1 hl (hll ▸ hbb)) h2
    · rw [updR_ne _ _ h1] at hl1; rw [updR_ne _ _ g1] at hl2
      exact hi.inj i j y z l1 l2 h3 g3 hfz hl1 hl2 hbb
  · intro i y hy
    rcases hget i y hy with ⟨rfl, rfl⟩ | ⟨h1, h2, h3⟩
    · exact Fx.used_self hi.lo
    · exact Fx.used_succ (hi.idh i y h3)
  · intro i l'' hl''
    by_cases h1 : i = nx
    · subst h1; exact Fx.used_self hi.lo
    · rw [updR_ne _ _ h1] at hl''; exact Fx.used_succ (hi.idr i l'' hl'')
  · intro i l'' hl''
    rw [setBlk_size]
    by_cases h1 : i = nx
    · subst h1; rw [updR_same] at hl''; cases hl''; rw [hll]; exact hb
    · rw [updR_ne _ _ h1] at hl''; exact hi.blk i l'' hl''
end Hp
end
section
namespace Hp
open Go
variable {P : Program} {w : World} {N : Nat → Prop} {ρ : Rho}
theorem Rel.one {p : PV} {v : Value} (h : Rel w N ρ p v) (h1 : p ≠ .any) (h2 : ∀ cs, p ≠ .agg cs) (h3 : ∀ cs, p ≠ .tup cs) : v.oneCell' = true := by
  cases h <;> first | rfl | exact absurd rfl h1 | exact absurd rfl (h2 _) | exact absurd rfl (h3 _)
theorem cells_one {v : Value} (h : v.oneCell' = true) : v.cells = #[v] := by
  cases v <;> first | rfl | (simp [Value.oneCell'] at h)
/-- cells of a value that may lie in memory -/
def CRel (w : World) (N : Nat → Prop) (ρ : Rho) (ps : List PV) (vs : List Value) : Prop :=
  vs.length = ps.length ∧ ∀ j, j < ps.length → Rel w N ρ (ps.getD j .any) (vs.getD j undef) ∧ (vs.getD j undef).oneCell' = true
theorem Rel.cells {p : PV} {v : Value} (h : Rel w N ρ p v) (hk : okv p = true) : CRel w N ρ p.cells v.cells.toList := by
  cases p with
  | agg cs =>
    cases h with
    | agg _ vs hs h1 hr =>
      refine ⟨by simpa [PV.cells, Value.cells] using hs, fun j hj => ?_⟩
      have := hr j hj
      have h1 := h1 j hj
      simp only [PV.cells] at hj
      simp only [PV.cells, Value.cells]
      have e : vs.toList.getD j undef = vs.getD j undef := by simp [List.getD, Array.getD_eq_getD_getElem?]
      rw [e]; exact ⟨this, h1⟩
  | any => simp [okv] at hk
  | tup cs => simp [okv] at hk
  | _ =>
    have h1 := h.one (by simp) (by simp) (by simp)
    rw [cells_one h1]
    refine ⟨rfl, fun j hj => ?_⟩
    have : j = 0 := by simp [PV.cells] at hj; exact hj
    subst this
    exact ⟨h, h1⟩
theorem CRel.keep {w' : World} {N' : Nat → Prop} {ρ' : Rho} (hk : Keep w N ρ w' N' ρ') {ps : List PV} {vs : List Value} (h : CRel w N ρ ps vs) : CRel w' N' ρ' ps vs :=
  ⟨h.1, fun j hj => ⟨(h.2 j hj).1.keep hk, (h.2 j hj).2⟩⟩
def RelL (w : World) (N : Nat → Prop) (ρ : Rho) (ps : List PV) (vs : Array Value) : Prop :=
  vs.size = ps.length ∧ ∀ i, i < ps.length → Rel w N ρ (ps.getD i .any) (vs.getD i undef)
def FrRel (w : World) (N : Nat → Prop) (ρ : Rho) (fr : Fr) (tmps : Array Value) : Prop := ∀ t, Rel w N ρ (Fr.at fr t) (tmps.getD t undef)
theorem mapM_some {α β : Type} {f : α → Option β} : ∀ {l : List α} {r : List β}, l.mapM f = some r → r.length = l.length ∧ ∀ i (hi : i < l.length), ∃ y, f l[i] = some y ∧ r[i]? = some y
  | [], r, h => by simp at h; subst h; simp
  | x :: l, r, h => by
    rw [List.mapM_cons] at h
    cases hx : f x with
    | none => simp [hx] at h
    | some y =>
      cases hl : l.mapM f with
      | none => simp [hx, hl] at h
      | some ys =>
        simp [hx, hl] at h
        subst h
        obtain ⟨h1, h2⟩ := mapM_some hl
        refine ⟨by simp [h1], fun i hi => ?_⟩
        cases i with
        | zero => exact ⟨y, hx, rfl⟩
        | succ i => obtain ⟨z, h3, h4⟩ := h2 i (by simpa using hi); exact ⟨z, by simpa using h3, by simpa using h4⟩
theorem getD_of_some {α : Type} {l : List α} {i : Nat} {x d : α} (h : l[i]? = some x) : l.getD i d = x := by simp [List.getD, h]
theorem agetD {α : Type} (a : Array α) (i : Nat) (d : α) : a.getD i d = a.toList.getD i d := by simp [List.getD, Array.getD_eq_getD_getElem?]
theorem toPV_rel : ∀ (n : Nat) (v : Value) (p : PV), toPV n v = some p → Rel w N ρ p v ∧ (okv p = true → isAgg p = false → v.oneCell' = true)
  | 0, v, p, h => by simp [toPV] at h
  | n + 1, v, p, h => by
    have key : ∀ (cs : Array Value) (l : List PV), cs.toList.mapM (toPV n) = some l →
        cs.size = l.length ∧ ∀ i, i < l.length → Rel w N ρ (l.getD i .any) (cs.getD i undef) ∧ (okv (l.getD i .any) = true → isAgg (l.getD i .any) = false → (cs.getD i undef).oneCell' = true) := by
      intro cs l hl
      obtain ⟨h1, h2⟩ := mapM_some hl
      refine ⟨by simp [h1], fun i hi => ?_⟩
      obtain ⟨y, h3, h4⟩ := h2 i (by omega)
      have hv : cs.getD i undef = cs.toList[i]'(by omega) := by
        have hi' : i < cs.size := by simpa [h1] using hi
        rw [Array.getD_eq_getD_getElem?, Array.getElem?_eq_getElem hi']; simp
      rw [getD_of_some h4, hv]
      exact toPV_rel n _ y h3
    simp only [toPV] at h
    split at h
    · cases h; exact ⟨.bool _, fun _ _ => rfl⟩
    · cases h; exact ⟨.int _ _, fun _ _ => rfl⟩
    · cases h; exact ⟨.str _, fun _ _ => rfl⟩
    · cases h; exact ⟨.nilp, fun _ _ => rfl⟩
    · cases h; exact ⟨.isl0 _ _ _ _ fun _ => rfl, fun _ _ => rfl⟩
    · cases h; exact ⟨.nilm, fun _ _ => rfl⟩
    · cases h; exact ⟨.nilf, fun _ _ => rfl⟩
    · cases h; exact ⟨.nili, fun _ _ => rfl⟩
    · rename_i cs
      split at h
      · rename_i l hl
        split at h
        · rename_i ha
          cases h
          obtain ⟨h1, h2⟩ := key cs l hl
          refine ⟨.agg l cs h1 (fun i hi => ?_) fun i hi => (h2 i hi).1, fun _ h => by simp [isAgg] at h⟩
          have : okv (l.getD i .any) = true ∧ isAgg (l.getD i .any) = false := by
            have := List.all_eq_true.1 ha (l.getD i .any) (by rw [List.getD, List.getElem?_eq_getElem hi]; simp)
            simpa using this
          exact (h2 i hi).2 this.1 this.2
        · cases h
      · cases h
    · rename_i cs
      cases hl : cs.toList.mapM (toPV n) with
      | none => simp [hl] at h
      | some l =>
        simp [hl] at h; subst h
        obtain ⟨h1, h2⟩ := key cs l hl
        exact ⟨.tup l cs h1 fun i hi => (h2 i hi).1, fun h => by simp [okv] at h⟩
    · cases h
theorem rOpd_rel {x : Operand} {o : Opd} (h : rOpd x = some o) {fr : Fr} {a : Act} (hf : FrRel w N ρ fr a.tmps) : Rel w N ρ (o.get fr) (a.eval x) := by
  cases x with
  | tmp t => simp only [rOpd] at h; cases h; exact hf t
  | const v =>
    simp only [rOpd] at h
    cases hv : toPV 8 v with
    | none => simp [hv] at h
    | some p => simp [hv] at h; subst h; exact (toPV_rel 8 v p hv).1
  | func f => simp only [rOpd] at h; cases h; exact .fn f [] [] #[] #[] rfl rfl (by simp) (by simp)
  | global g => simp [rOpd] at h
end Hp
end
section
namespace Hp
open Go
variable {P : Program} {τ : Tb} {w : World} {F : Fx τ} {ρ : Rho} {h : Heap} {nx : Nat}
def Does (P : Program) (w : World) (F : Fx τ) (ρ : Rho) (h : Heap) (s : Sem Next) (v : PV) (h' : Heap) (nx' : Nat) : Prop :=
  ∃ (w' : World) (ρ' : Rho) (nxt : Next) (val : Value), s.run P w = .ok nxt w' ∧ (nxt = .value val ∨ (nxt = .skip ∧ val = undef)) ∧ Inv w' F ρ' h' nx' ∧ Grow w h ρ w' h' ρ' ∧ Rel w' (NN F h' ρ') ρ' v val
theorem Does.quiet {s : Sem Next} {v : PV} {val : Value} (hi : Inv w F ρ h nx) (hs : s.run P w = .ok (.value val) w) (hr : Rel w (NN F h ρ) ρ v val) : Does P w F ρ h s v h nx :=
  ⟨w, ρ, _, val, hs, .inl rfl, hi, .refl .., hr⟩
theorem Does.of_run {s s' : Sem Next} {v : PV} {h' : Heap} {nx' : Nat} (hd : Does P w F ρ h s v h' nx') (he : s'.run P w = s.run P w) : Does P w F ρ h s' v h' nx' := by
  obtain ⟨w', ρ', nxt, val, h1, h2⟩ := hd
  exact ⟨w', ρ', nxt, val, he.trans h1, h2⟩
theorem run_sizeOf {t : TypeId} {k : Nat} (hk : sizeT P t = some k) (w : World) : (Go.sizeOf t).run P w = .ok k w := by
  simp only [sizeT, Option.map_eq_some_iff] at hk
  obtain ⟨i, h1, h2⟩ := hk
  simp [Go.sizeOf, typeInfo, h1, h2]
theorem run_isAgg {t : TypeId} {g : Bool} (hk : isAggT P t = some g) (w : World) : (Go.isAgg t).run P w = .ok g w := by
  unfold isAggT at hk
  unfold Go.isAgg
  cases hu : P.underlying t with
  | none => simp [hu] at hk
  | some d =>
    rw [Sem.run_bind, run_underlying hu]
    cases d <;> simp [hu] at hk <;> simp [← hk]
theorem run_zero {t : TypeId} {z : PV} (hz : zeroT P t = some z) (w : World) : ∃ v i, P.info? t = some i ∧ i.zero = some v ∧ (zeroValue t).run P w = .ok v w ∧ toPV 8 v = some z ∧ okv z = true ∧ v.cells.size = i.size ∧ z.cells.length = i.size := by
  unfold zeroT at hz
  cases hi : P.info? t with
  | none => simp [hi] at hz
  | some i =>
    cases hv : i.zero with
    | none => simp [hi, hv] at hz
    | some v =>
      cases hp : toPV 8 v with
      | none => simp [hi, hv, hp] at hz
      | some p =>
        simp [hi, hv, hp] at hz
        obtain ⟨⟨h1, h2, h3⟩, rfl⟩ := hz
        exact ⟨v, i, rfl, hv, by simp [zeroValue, typeInfo, hi, hv], hp, h3, h1, h2⟩
theorem Addr_add (b o n : Nat) : (⟨b, o, none⟩ : Addr).add n = ⟨b, o + n, none⟩ := by
  unfold Addr.add; split <;> simp_all
/-! ### what lies behind a pointer -/
theorem harr_some {h : Heap} {id : Nat} {fz : Bool} {sz : Nat} {es : List PV} (hh : harr h id = some (fz, sz, es)) : h.get id = some ⟨fz, .arr sz es⟩ := by
  unfold harr at hh
  split at hh
  · rename_i f s e heq; cases hh; exact heq
  · cases hh
theorem Inv.arr (hi : Inv w F ρ h nx) {id : Nat} {fz : Bool} {sz : Nat} {es : List PV} (hh : harr h id = some (fz, sz, es)) (hne : es ≠ []) :
    ∃ (l : Loc) (c : Array Value) (e : TypeId), ρ id = some l ∧ l.sz = sz ∧ w.heap[l.blk]? = some (.cells c e (0, 0)) ∧ 0 < sz ∧ l.base + es.length * sz ≤ c.size ∧
      (∀ i, i < es.length → (es.getD i .any).cells.length = sz) ∧
      ∀ i j, i < es.length → j < sz → Rel w (NN F h ρ) ρ ((es.getD i .any).cells.getD j .any) (c.getD (l.base + i * sz + j) undef) ∧ (c.getD (l.base + i * sz + j) undef).oneCell' = true :=
  (hi.obj id _ (harr_some hh)).resolve_left fun h => hne h.1
theorem index_lt {b ix sz off es size : Nat} (h1 : b + es * sz ≤ size) (h2 : ix < es) (h3 : off < sz) : b + ix * sz + off < size := by
  have : (ix + 1) * sz ≤ es * sz := Nat.mul_le_mul_right sz h2
  have e : (ix + 1) * sz = ix * sz + sz := Nat.succ_mul ix sz
  omega
theorem cell_at {w : World} {b : Nat} {c : Array Value} {e : TypeId} {f : Nat × Nat} (hb : w.heap[b]? = some (.cells c e f)) {q : Nat} (hq : q < c.size) : w.cell? ⟨b, q, none⟩ = some (c.getD q undef) := by
  simp [World.cell?, hb, Array.getD, hq]
theorem getD_drop' {α : Type} (l : List α) (k i : Nat) (d : α) : (l.drop k).getD i d = l.getD (k + i) d := by simp [List.getD, List.getElem?_drop]
theorem behind_rel (hi : Inv w F ρ h nx) {p : PV} {va : Value} {cs : List PV} (hb : behind h p = some cs) (hr : Rel w (NN F h ρ) ρ p va) :
    ∃ (b o : Nat) (g : Nat → Value), va = .pointer (some ⟨b, o, none⟩) ∧ ∀ i, i < cs.length → w.cell? ⟨b, o + i, none⟩ = some (g i) ∧ Rel w (NN F h ρ) ρ (cs.getD i .any) (g i) ∧ (g i).oneCell' = true := by
  unfold behind at hb
  split at hb
  · cases hb
    cases hr with
    | iptr b o cs g hb hn hc h1 hr => exact ⟨b, o, g, rfl, fun i hi => ⟨hc i hi, hr i hi, h1 i hi⟩⟩
  · rename_i id ix off
    cases hr with
    | mptr _ _ _ l hl =>
      cases ha : harr h id with
      | none => simp [ha] at hb
      | some x =>
        obtain ⟨fz, sz, es⟩ := x
        simp only [ha] at hb
        cases he : es[ix]? with
        | none => simp [he] at hb
        | some e =>
          simp [he] at hb
          subst hb
          have hix : ix < es.length := by
            rcases Nat.lt_or_ge ix es.length with h | h
            · exact h
            · simp [List.getElem?_eq_none h] at he
          have hne : es ≠ [] := by intro h0; subst h0; simp at hix
          obtain ⟨l', c, te, h1, h2, h3, hpos, h4, h5, h6⟩ := hi.arr ha hne
          rw [hl] at h1; cases h1
          have hee : es.getD ix .any = e := getD_of_some he
          refine ⟨l.blk, l.base + ix * l.sz + off, fun i => c.getD (l.base + ix * l.sz + off + i) undef, rfl, fun i hi' => ?_⟩
          have hlen := h5 ix hix
          rw [hee] at hlen
          have hoi : off + i < sz := by simp at hi'; omega
          have := h6 ix (off + i) hix hoi
          rw [hee] at this
          rw [getD_drop']
          have hq := index_lt h4 hix hoi
          rw [h2]
          have e1 : l.base + ix * sz + off + i = l.base + ix * sz + (off + i) := by omega
          simp only [e1]
          exact ⟨cell_at h3 hq, this.1, this.2⟩
  · cases hb
theorem load_does (hi : Inv w F ρ h nx) {t : TypeId} {k : Nat} {ag : Bool} {p v : PV} {va : Value} (hk : sizeT P t = some k) (hg : isAggT P t = some ag)
    (hr : Rel w (NN F h ρ) ρ p va) (hv : ldv h k ag p = some v) : Does P w F ρ h (do pure (.value (← Instr.loadAt t va))) v h nx := by
  unfold ldv at hv
  cases hb : behind h p with
  | none => simp [hb] at hv
  | some cs =>
    simp only [hb, Option.bind_some] at hv
    obtain ⟨b, o, g, rfl, hc⟩ := behind_rel hi hb hr
    unfold ldCells at hv
    cases ag with
    | true =>
      simp only [if_true] at hv
      split at hv
      · rename_i hle
        cases hv
        have hl := run_loadCells (P := P) w ⟨b, o, none⟩ k g (fun j hj => by rw [Addr_add]; exact (hc j (by omega)).1)
        refine Does.quiet hi (val := .agg ((List.range k).map g).toArray) ?_ ?_
        · simp [Instr.loadAt, Instr.sureAddr, loadVar, run_isAgg hg, run_sizeOf hk, hl]
        · have hget : ∀ i, i < k → ((List.range k).map g).toArray.getD i undef = g i := by
            intro i hi; rw [agetD]; simp [List.getD, List.getElem?_range, hi]
          refine .agg _ _ (by simp; omega) (fun i hi => ?_) fun i hi => ?_
          · have hik : i < k := by simp at hi; omega
            rw [hget i hik]; exact (hc i (by omega)).2.2
          · have hik : i < k := by simp at hi; omega
            rw [hget i hik]
            have : (cs.take k).getD i .any = cs.getD i .any := by simp [List.getD, List.getElem?_take, hik]
            rw [this]; exact (hc i (by omega)).2.1
      · cases hv
    | false =>
      simp at hv
      cases cs with
      | nil => simp at hv
      | cons x cs =>
        simp at hv; subst hv
        obtain ⟨h1, h2, _⟩ := hc 0 (by simp)
        refine Does.quiet hi (val := g 0) ?_ (by simpa using h2)
        simp at h1
        simp [Instr.loadAt, Instr.sureAddr, loadVar, run_isAgg hg, h1]
theorem getD_cells (v : Value) (j : Nat) : v.cells.getD j undef = v.cells.toList.getD j undef := agetD ..
/-- a new variable -/
theorem newVar_does (hi : Inv w F ρ h nx) (hV : ¬ F.ids nx) (t : TypeId) {p : PV} {v : Value} (hr : Rel w (NN F h ρ) ρ p v) (hk : okv p = true) (hpos : 0 < p.cells.length) :
    Does P w F ρ h (do pure (.value (.pointer (some (← newVar t v))))) (.mptr nx 0 0) (hset h nx (some (.arr p.cells.length [p]))) (nx + 1) := by
  obtain ⟨hc1, hc2⟩ := hr.cells hk
  obtain ⟨h1, h2⟩ := hi.alloc hV (.cells v.cells t) (.arr p.cells.length [p]) p.cells.length (by
    intro N' ρ' hkeep hn
    refine .inr ⟨_, v.cells, t, hn, rfl, heap_alloc_new .., hpos, ?_, ?_, ?_⟩
    · simp [← hc1]
    · intro i hi'; have : i = 0 := by simpa using hi'
      subst this; rfl
    · intro i j hi' hj
      have : i = 0 := by simpa using hi'
      subst this
      simp only [Nat.zero_mul, Nat.add_zero, Nat.zero_add]
      have := hc2 j hj
      rw [getD_cells]
      exact ⟨this.1.keep hkeep, this.2⟩)
  refine ⟨w.alloc (.cells v.cells t), _, .value (.pointer (some ⟨w.heap.size, 0, none⟩)), .pointer (some ⟨w.heap.size, 0, none⟩), ?_, .inl rfl, h1, h2, ?_⟩
  · simp [newVar, newRow]
  · have := Rel.mptr (w := w.alloc (.cells v.cells t)) (N := NN F (hset h nx (some (.arr p.cells.length [p]))) (updR ρ nx ⟨w.heap.size, 0, p.cells.length⟩)) (ρ := updR ρ nx ⟨w.heap.size, 0, p.cells.length⟩) nx 0 0 _ (updR_same ..)
    simpa using this
def ovw (c : Array Value) (o : Nat) (vs : List Value) : Array Value := (c.toList.take o ++ vs ++ c.toList.drop (o + vs.length)).toArray
theorem ovw_size (c : Array Value) (o : Nat) (vs : List Value) (h : o + vs.length ≤ c.size) : (ovw c o vs).size = c.size := by
  simp [ovw]; omega
theorem ovw_getD (c : Array Value) (o : Nat) (vs : List Value) (h : o + vs.length ≤ c.size) (q : Nat) :
    (ovw c o vs).getD q undef = if o ≤ q ∧ q < o + vs.length then vs.getD (q - o) undef else c.getD q undef := by
  rw [agetD, agetD]
  simp only [ovw, List.getD, List.append_assoc]
  have hlen : (c.toList.take o).length = o := by simp; omega
  by_cases h1 : q < o
  · rw [if_neg (by omega), List.getElem?_append_left (by omega), List.getElem?_take, if_pos h1]
  · rw [List.getElem?_append_right (by omega), hlen]
    by_cases h2 : q < o + vs.length
    · rw [if_pos (by omega), List.getElem?_append_left (by omega)]
    · rw [if_neg (by omega), List.getElem?_append_right (by omega), List.getElem?_drop]
      have : o + vs.length + (q - o - vs.length) = q := by omega
      rw [this]
theorem setRow_setBlk {w : World} {g : Nat} {cur : Array Value} {t : TypeId} {f : Nat × Nat} (hb : w.heap[g]? = some (.cells cur t f)) (c : Array Value) : w.setRow g c = setBlk w g (.cells c t f) := by
  have hlt := lt_of_heap hb
  have : w.heap[g] = .cells cur t f := by simpa [Array.getElem?_eq_getElem hlt] using hb
  simp only [World.setRow, setBlk]
  congr 1
  apply Array.ext
  · simp
  · intro i h1 h2
    have e : (w.heap.setIfInBounds g (Obj.cells c t f))[i]? = if g = i then some (Obj.cells c t f) else w.heap[i]? := by
      by_cases he : g = i
      · subst he; simp [hlt]
      · simp [he, Array.getElem?_setIfInBounds_ne he]
    rw [Array.getElem?_eq_getElem h2] at e
    rw [Array.getElem_modify]
    by_cases he : g = i
    · subst he; simp only [if_true] at e; simp only [if_true, this]; exact (Option.some.inj e).symm
    · have hi : i < w.heap.size := by simpa using h1
      simp only [he, if_false] at e ⊢
      rw [Array.getElem?_eq_getElem hi] at e
      exact (Option.some.inj e).symm
theorem run_storeCells_blk {g : Nat} {cur : Array Value} {t : TypeId} (hb : w.heap[g]? = some (.cells cur t (0, 0))) (o : Nat) (vs : List Value) (hl : o + vs.length ≤ cur.size) (h1 : ∀ v ∈ vs, v.oneCell' = true) :
    (storeCells ⟨g, o, none⟩ vs).run P w = .ok () (setBlk w g (.cells (ovw cur o vs) t (0, 0))) := by
  have := run_storeCells_at (P := P) g o t vs 0 cur w hb (by simpa using hl) h1
  rw [this, setRow_setBlk hb]; simp [ovw]
theorem CRel.allOne {N : Nat → Prop} {ps : List PV} {vs : List Value} (hc : CRel w N ρ ps vs) : ∀ v ∈ vs, v.oneCell' = true := by
  intro v hv
  obtain ⟨j, hj, rfl⟩ := List.getElem_of_mem hv
  have := (hc.2 j (hc.1 ▸ hj)).2
  simpa [List.getD, List.getElem?_eq_getElem hj] using this
theorem mul_sep {i ix sz j off k : Nat} (hne : i ≠ ix) (hj : j < sz) (hk : off + k ≤ sz) (h : ix * sz + off ≤ i * sz + j) (h' : i * sz + j < ix * sz + off + k) : False := by
  rcases Nat.lt_or_gt_of_ne hne with hlt | hgt
  · have : (i + 1) * sz ≤ ix * sz := Nat.mul_le_mul_right sz hlt
    rw [Nat.succ_mul] at this; omega
  · have : (ix + 1) * sz ≤ i * sz := Nat.mul_le_mul_right sz hgt
    rw [Nat.succ_mul] at this; omega
theorem getD_set' {α : Type} (l : List α) (i j : Nat) (x d : α) (hi : i < l.length) : (l.set i x).getD j d = if j = i then x else l.getD j d := by
  simp only [List.getD, List.getElem?_set]
  by_cases h : i = j
  · subst h; simp [hi]
  · have : j ≠ i := fun e => h e.symm
    simp [h, this]
theorem putCells_ok {e : PV} {off : Nat} {new : List PV} {e' : PV} (hp : putCells e off new = some e') (hn : ∀ x ∈ new, isAgg x = false) :
    off + new.length ≤ e.cells.length ∧ e'.cells.length = e.cells.length ∧ ∀ j, e'.cells.getD j .any = if off ≤ j ∧ j < off + new.length then new.getD (j - off) .any else e.cells.getD j .any := by
  unfold putCells at hp
  split at hp
  · rename_i cs
    split at hp
    · rename_i hle
      cases hp
      refine ⟨hle, by simp [PV.cells]; omega, fun j => ?_⟩
      simp only [PV.cells, List.getD, List.append_assoc]
      have hlen : (cs.take off).length = off := by simp; omega
      by_cases h1 : j < off
      · rw [if_neg (by omega), List.getElem?_append_left (by omega), List.getElem?_take, if_pos h1]
      · rw [List.getElem?_append_right (by omega), hlen]
        by_cases h2 : j < off + new.length
        · rw [if_pos (by omega), List.getElem?_append_left (by omega)]
        · rw [if_neg (by omega), List.getElem?_append_right (by omega), List.getElem?_drop]
          have : off + new.length + (j - off - new.length) = j := by omega
          rw [this]
    · cases hp
  · rename_i hna
    split at hp
    · rename_i v
      split at hp
      · cases hp
      · rename_i hv
        cases hp
        have hc : ∀ p : PV, isAgg p = false → p.cells = [p] := by intro p hp; cases p <;> first | rfl | simp [isAgg] at hp
        have he : isAgg e = false := by cases e <;> first | rfl | exact absurd rfl (hna _)
        rw [hc e he, hc e' (by simpa using hv)]
        refine ⟨by simp, rfl, fun j => ?_⟩
        by_cases hj : j = 0
        · subst hj; simp
        · have : 1 ≤ j := by omega
          rw [if_neg (by simp; omega)]
          simp [List.getD, List.getElem?_eq_none (show [e'].length ≤ j by simpa using this), List.getElem?_eq_none (show [e].length ≤ j by simpa using this)]
    · cases hp
theorem Rel.notAgg {N : Nat → Prop} {p : PV} {v : Value} (h : Rel w N ρ p v) (h1 : v.oneCell' = true) : isAgg p = false := by
  cases h <;> first | rfl | (simp [Value.oneCell'] at h1)
theorem CRel.notAgg {N : Nat → Prop} {ps : List PV} {vs : List Value} (hc : CRel w N ρ ps vs) : ∀ x ∈ ps, isAgg x = false := by
  intro x hx
  obtain ⟨j, hj, rfl⟩ := List.getElem_of_mem hx
  have := hc.2 j hj
  rw [show ps.getD j .any = ps[j] by simp [List.getD, List.getElem?_eq_getElem hj]] at this
  exact this.1.notAgg this.2
/-- cells of an own thing overwritten -/
theorem Inv.write (hi : Inv w F ρ h nx) {id sz : Nat} {es : List PV} (ha : harr h id = some (false, sz, es)) (hne : es ≠ []) {l : Loc} {c : Array Value} {te : TypeId}
    (hl : ρ id = some l) (hb : w.heap[l.blk]? = some (.cells c te (0, 0))) (c' : Array Value) (hc : c'.size = c.size) (es' : List PV) (hlen : es'.length = es.length)
    (hobj : ∀ N' , Keep w (NN F h ρ) ρ (setBlk w l.blk (.cells c' te (0, 0))) N' ρ → ∀ i, i < es'.length → (es'.getD i .any).cells.length = sz ∧ ∀ j, j < sz →
      Rel (setBlk w l.blk (.cells c' te (0, 0))) N' ρ ((es'.getD i .any).cells.getD j .any) (c'.getD (l.base + i * sz + j) undef) ∧ (c'.getD (l.base + i * sz + j) undef).oneCell' = true) :
    Inv (setBlk w l.blk (.cells c' te (0, 0))) F ρ (hset h id (some (.arr sz es'))) nx ∧ Grow w h ρ (setBlk w l.blk (.cells c' te (0, 0))) (hset h id (some (.arr sz es'))) ρ := by
  obtain ⟨l', c0, te0, h1, h2, h3, hpos, h4, h5, h6⟩ := hi.arr ha hne
  rw [hl] at h1; cases h1
  rw [hb] at h3; cases h3
  refine hi.set (harr_some ha) rfl hl _ _ (fun c1 e1 f1 hc1 => ?_) fun N' hk => ?_
  · rw [hb] at hc1; cases hc1; exact ⟨c', _, rfl, hc⟩
  · have := hobj N' hk
    exact .inr ⟨l, c', te, hl, h2, setBlk_same w _ (lt_of_heap hb), hpos, by rw [hlen, hc]; exact h4, fun i hi' => (this i hi').1, fun i j hi' hj => (this i hi').2 j hj⟩
theorem store_does (hi : Inv w F ρ h nx) {t : TypeId} {k : Nat} {x : PV} {va vx : Value} {id ix off sz : Nat} {es : List PV} {e e' : PV} (hk : sizeT P t = some k)
    (hr : Rel w (NN F h ρ) ρ (.mptr id ix off) va) (hx : Rel w (NN F h ρ) ρ x vx) (ha : harr h id = some (false, sz, es)) (he : es[ix]? = some e)
    (hok : okv x = true) (hkx : x.cells.length = k) (hp : putCells e off x.cells = some e') :
    Does P w F ρ h (do Instr.storeAt t va vx; pure .skip) (.tup []) (hset h id (some (.arr sz (es.set ix e')))) nx := by
  cases hr with
  | mptr _ _ _ l hl =>
    have hc := hx.cells hok
    obtain ⟨g1, g2, g3⟩ := putCells_ok hp hc.notAgg
    have hix : ix < es.length := by
      rcases Nat.lt_or_ge ix es.length with h | h
      · exact h
      · simp [List.getElem?_eq_none h] at he
    have hne : es ≠ [] := by intro h0; subst h0; simp at hix
    obtain ⟨l', c, te, h1, h2, h3, hpos, h4, h5, h6⟩ := hi.arr ha hne
    rw [hl] at h1; cases h1
    subst h2
    have hee : es.getD ix .any = e := getD_of_some he
    have hesz : e.cells.length = l.sz := by have := h5 ix hix; rwa [hee] at this
    have hvl : vx.cells.toList.length = k := hc.1.trans hkx
    rw [hkx] at g1
    have hmul : (ix + 1) * l.sz ≤ es.length * l.sz := Nat.mul_le_mul_right l.sz hix
    rw [Nat.succ_mul] at hmul
    have hin : l.base + ix * l.sz + off + vx.cells.toList.length ≤ c.size := by rw [hvl]; omega
    have hsc := run_storeCells_blk (P := P) h3 (l.base + ix * l.sz + off) vx.cells.toList hin hc.allOne
    obtain ⟨q1, q2⟩ := hi.write ha hne hl h3 (ovw c (l.base + ix * l.sz + off) vx.cells.toList) (ovw_size _ _ _ hin) (es.set ix e') (by simp) (by
      intro N' hkeep i hi'
      have hie : i < es.length := by simpa using hi'
      rw [getD_set' es ix i e' .any hix]
      by_cases hii : i = ix
      · subst hii
        simp only [if_true]
        refine ⟨g2.trans hesz, fun j hj => ?_⟩
        rw [g3 j, ovw_getD _ _ _ hin, hvl, hkx]
        by_cases hjr : off ≤ j ∧ j < off + k
        · rw [if_pos hjr, if_pos (by omega)]
          have e1 : l.base + i * l.sz + j - (l.base + i * l.sz + off) = j - off := by omega
          rw [e1]
          have := hc.2 (j - off) (by omega)
          exact ⟨this.1.keep hkeep, this.2⟩
        · rw [if_neg hjr, if_neg (by omega)]
          have := h6 i j hix hj
          rw [hee] at this
          exact ⟨this.1.keep hkeep, this.2⟩
      · simp only [hii, if_false]
        refine ⟨h5 i hie, fun j hj => ?_⟩
        rw [ovw_getD _ _ _ hin, hvl, if_neg]
        · have := h6 i j hie hj
          exact ⟨this.1.keep hkeep, this.2⟩
        · intro ⟨ha', hb'⟩
          exact mul_sep hii hj (by omega : off + k ≤ l.sz) (by omega) (by omega))
    refine ⟨_, ρ, .skip, undef, ?_, .inr ⟨rfl, rfl⟩, q1, q2, .tup [] #[] rfl (by simp)⟩
    have hvs : vx.cells.size = k := by simpa using hvl
    simp only [Instr.storeAt, Instr.sureAddr, storeVar, Sem.run_bind, Sem.run_pure, Result.andThen_ok, run_sizeOf hk, hvs, ne_eq, not_true_eq_false, if_false, hsc, pure_bind, Sem.run_ite]
end Hp
end
