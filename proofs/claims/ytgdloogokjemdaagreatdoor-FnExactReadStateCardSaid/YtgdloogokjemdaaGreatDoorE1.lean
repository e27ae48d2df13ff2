/- An evaluator: code in a small form, over values in which all not-a-numbers are one, and a heap of objects that are numbered as they are made. Definitions alone; no condition. -/
import Derived.Test.YtgdloogokjemdaaGreatDoorE0
set_option linter.unusedVariables false
set_option linter.unusedSimpArgs false
namespace Go.E
open Go

/-- What one cell holds. A pointer leads to a cell of an object; a slice to its first cell, with its length and its elements' size. -/
inductive Lf where
  | bool (b : Bool)
  | int (k : IntKind) (n : Int)
  | flt (k : FloatKind) (x : Nat)
  | str (s : ByteArray)
  | nilp
  | ptr (id off : Nat)
  | nils
  | sl (id off len sz : Nat)
  | nilf
  | fn (f : FuncId) (caps : List (Nat × Nat))
  | nili
  | nb
inductive TV where
  | lf (l : Lf)
  | agg (ls : List Lf)
inductive CV where
  | lf (l : Lf)
  | agg (ls : List Lf)
  | tup (ts : List TV)
def TV.cv : TV → CV
  | .lf l => .lf l
  | .agg ls => .agg ls
abbrev un : CV := .tup []
def CV.leaves : CV → Option (List Lf)
  | .lf l => some [l]
  | .agg ls => some ls
  | .tup _ => none
def CV.tv : CV → TV
  | .lf l => .lf l
  | .agg ls => .agg ls
  | .tup _ => .agg []
def mkV (ag : Bool) (ls : List Lf) : CV := if ag then .agg ls else match ls with | [l] => .lf l | _ => un
inductive St where
  | own (ty sz : Nat)
  | ro
  | dead
structure Ob where
  cells : List Lf
  st : St
abbrev Hp := List Ob
abbrev Fr := Nat → CV

inductive X where
  | t (n : Nat)
  | c (v : CV)
/-- What the library has no body for. -/
inductive XK where
  | bits64
  | from64
  | bits32
  | from32
  | floor
  | ceil
  | trunc
  | even
  | idxb
inductive LO where
  | mv (x : X)
  | pick (c a b : X)
  | box (ty : Nat) (x : X)
  | alloc (ty : Nat) (zero : List Lf)
  | build (zero : List Lf) (parts : List (Nat × Nat × X))
  | lit (ty sz len : Nat) (zero : List Lf) (parts : List (Nat × Nat × X))
  | make (ty sz bytes : Nat) (zero : List Lf) (l c : X)
  | load (ag : Bool) (n : Nat) (x : X)
  | store (n : Nat) (x y : X)
  | nilck (x : X)
  | bin (op : BinOp) (x y : X)
  | beq (neg : Bool) (x y : X)
  | una (op : UnOp) (x : X)
  | toint (k : IntKind) (x : X)
  | toflt (k : FloatKind) (x : X)
  | tostr (x : X)
  | slice (sz : Nat) (x : X) (lo hi : Option X)
  | sstr (x : X) (lo hi : Option X)
  | faddr (off : Nat) (x : X)
  | field (ag : Bool) (off n : Nat) (x : X)
  | iaddr (sz : Nat) (x i : X)
  | idx (x i : X)
  | ext (x : X) (i : Nat)
  | len (x : X)
  | slen (x : X)
  | app (ty sz bytes : Nat) (x y : X)
  | mnmx (mx : Bool) (xs : List X)
  | xop (k : XK) (xs : List X)
  | mkf (f : FuncId) (xs : List X)
  | callv (x : X) (xs : List X)
  | call (pure : Bool) (f : FuncId) (xs : List X)
  | bad
structure LOper where
  d : Option Nat
  o : LO
  g : Option (Nat × Bool)
/-- Orders in which a region may be gone through: at 'alt' either way may be taken. -/
inductive OT where
  | nil
  | op (o : LOper) (r : OT)
  | alt (s t : OT)
  | bad
inductive LC where
  | skip
  | reg (ops : List LOper)
  | any (t : OT)
  | seq (a b : LC)
  | cond (c : X) (a b : LC)
  | block (id : Nat) (c : LC)
  | loop (c : LC)
  | exit (id : Nat)
  | ret
  | bad
inductive Rs where
  | tmp (t : Nat)
  | cell (t : Nat) (ag : Bool) (n : Nat)
structure LFn where
  np : Nat
  code : LC
  res : List Rs

def evX (a : Fr) : X → CV
  | .t n => a n
  | .c v => v
def evO2 (a : Fr) : Option X → Option CV
  | none => none
  | some x => some (evX a x)
def upd (a : Fr) (d : Option Nat) (v : CV) : Fr :=
  match d with
  | none => a
  | some d => fun t => if t = d then v else a t

/-! ### Numbers -/
def ibin (op : BinOp) (k : IntKind) (a b : Int) : Option CV :=
  match op with
  | .add => some (.lf (.int k (k.wrap (a + b))))
  | .sub => some (.lf (.int k (k.wrap (a - b))))
  | .mul => some (.lf (.int k (k.wrap (a * b))))
  | .quo => if b = 0 then none else some (.lf (.int k (k.wrap (a.tdiv b))))
  | .rem => if b = 0 then none else some (.lf (.int k (a.tmod b)))
  | .and => some (.lf (.int k (Go.bits .and k a b)))
  | .or => some (.lf (.int k (Go.bits .or k a b)))
  | .xor => some (.lf (.int k (Go.bits .xor k a b)))
  | .andNot => some (.lf (.int k (Go.bits .andNot k a b)))
  | .eql => some (.lf (.bool (a == b)))
  | .neq => some (.lf (.bool (a != b)))
  | .lss => some (.lf (.bool (decide (a < b))))
  | .leq => some (.lf (.bool (decide (a ≤ b))))
  | .gtr => some (.lf (.bool (decide (a > b))))
  | .geq => some (.lf (.bool (decide (a ≥ b))))
  | _ => none
def ishift (op : BinOp) (k : IntKind) (a b : Int) : Option CV :=
  if b < 0 then none else
  match op with
  | .shl => some (.lf (.int k (k.wrap (a * 2 ^ min b.toNat k.bits))))
  | .shr => some (.lf (.int k (a.fdiv (2 ^ min b.toNat k.bits))))
  | _ => none
def fop (op : BinOp) (k : FloatKind) (x y : Nat) : Option CV :=
  if arith op then some (.lf (.flt k (fbin op k x y))) else if cmp op then some (.lf (.bool (fcmp op k x y))) else none
def sop (op : BinOp) (x y : ByteArray) : Option CV :=
  match op with
  | .add => if x.size + y.size ≤ 9223372036854775807 then some (.lf (.str (x ++ y))) else none
  | .eql => some (.lf (.bool (x.toList == y.toList)))
  | .neq => some (.lf (.bool (!(x.toList == y.toList))))
  | .lss => some (.lf (.bool (Op.bytesLess x.toList y.toList)))
  | .leq => some (.lf (.bool (Op.bytesLess x.toList y.toList || x.toList == y.toList)))
  | .gtr => some (.lf (.bool (!(Op.bytesLess x.toList y.toList || x.toList == y.toList))))
  | .geq => some (.lf (.bool (!Op.bytesLess x.toList y.toList)))
  | _ => none
def isShift (op : BinOp) : Bool := op matches .shl | .shr
def binV (op : BinOp) : CV → CV → Option CV
  | .lf (.int k a), .lf (.int k' b) => if isShift op then ishift op k a b else if k = k' then ibin op k a b else none
  | .lf (.flt k x), .lf (.flt k' y) => if k = k' then fop op k x y else none
  | .lf (.str x), .lf (.str y) => sop op x y
  | .lf .nb, .lf (.int .u64 c) => match op with
    | .andNot => if c = 9223372036854775808 then some (.lf .nb) else none
    | _ => none
  | _, _ => none
def unV (op : UnOp) : CV → Option CV
  | .lf (.int k n) => match op with
    | .neg => some (.lf (.int k (k.wrap (0 - n))))
    | .xor => some (.lf (.int k (Go.bits .xor k (if k.signed then -1 else k.max) n)))
    | _ => none
  | .lf (.flt k x) => match op with
    | .neg => some (.lf (.flt k (fneg k x)))
    | _ => none
  | .lf (.bool b) => match op with
    | .not => some (.lf (.bool (!b)))
    | _ => none
  | _ => none
def tointV (k : IntKind) : CV → Option CV
  | .lf (.int _ n) => some (.lf (.int k (k.wrap n)))
  | .lf (.flt s x) => (ftoint s x k).map fun n => .lf (.int k n)
  | _ => none
def tofltV (k : FloatKind) : CV → Option CV
  | .lf (.int _ n) => some (.lf (.flt k (fofint k n)))
  | .lf (.flt s x) => (fconv s k x).map fun y => .lf (.flt k y)
  | _ => none
def mnmx2 (mx : Bool) : CV → CV → Option CV
  | .lf (.int k x), .lf (.int k' y) => if k = k' then some (.lf (.int k (if mx then (if x < y then y else x) else (if y < x then y else x)))) else none
  | .lf (.flt k x), .lf (.flt k' y) =>
    if k = k' then
      match k.format.order x y with
      | none => none
      | some .lt => some (.lf (.flt k (if mx then y else x)))
      | some .gt => some (.lf (.flt k (if mx then x else y)))
      | some .eq => some (.lf (.flt k (if mx then (if (k.decode x).neg then y else x) else (if (k.decode x).neg then x else y))))
    else none
  | _, _ => none
/-- A float64 without its places behind the point. -/
def ftow (way : Ieee.Toward) (x : Nat) : Nat := if isNaN .f64 x then nanOf .f64 else FloatKind.f64.encode ((FloatKind.f64.decode x).integral way)
def byteIdx (s : ByteArray) (c : Int) : Int := match (List.range s.size).find? fun i => ((s[i]!).toNat : Int) == c with | some i => i | none => -1
def xBits64 : List CV → Option CV
  | [.lf (.flt .f64 x)] => if isNaN .f64 x then some (.lf .nb) else some (.lf (.int .u64 x))
  | _ => none
def xFrom64 : List CV → Option CV
  | [.lf (.int .u64 n)] => if 0 ≤ n ∧ n < 18446744073709551616 then some (.lf (.flt .f64 (can .f64 n.toNat))) else none
  | [.lf .nb] => some (.lf (.flt .f64 (nanOf .f64)))
  | _ => none
def xBits32 : List CV → Option CV
  | [.lf (.flt .f32 x)] => if isNaN .f32 x then none else some (.lf (.int .u32 x))
  | _ => none
def xFrom32 : List CV → Option CV
  | [.lf (.int .u32 n)] => if 0 ≤ n ∧ n < 4294967296 then some (.lf (.flt .f32 (can .f32 n.toNat))) else none
  | _ => none
def xIdxb : List CV → Option CV
  | [.lf (.str s), .lf (.int .u8 c)] => if 0 ≤ c ∧ c < 256 then some (.lf (.int .i64 (byteIdx s c))) else none
  | _ => none
def xWay (way : Ieee.Toward) : List CV → Option CV
  | [.lf (.flt .f64 x)] => some (.lf (.flt .f64 (ftow way x)))
  | _ => none
def xopV : XK → List CV → Option CV
  | .bits64, l => xBits64 l
  | .from64, l => xFrom64 l
  | .bits32, l => xBits32 l
  | .from32, l => xFrom32 l
  | .floor, l => xWay .down l
  | .ceil, l => xWay .up l
  | .trunc, l => xWay .zero l
  | .even, l => xWay .even l
  | .idxb, l => xIdxb l
def capsL : List CV → Option (List (Nat × Nat))
  | [] => some []
  | .lf (.ptr id off) :: r => (capsL r).map fun q => (id, off) :: q
  | _ :: _ => none
def ptrs (cs : List (Nat × Nat)) : List CV := cs.map fun p => .lf (.ptr p.1 p.2)
def mnmxV (mx : Bool) : List CV → Option CV
  | [] => none
  | x :: r => r.foldlM (mnmx2 mx) x

/-! ### Memory -/
def splice (cs : List Lf) (off : Nat) (new : List Lf) : List Lf := cs.take off ++ new ++ cs.drop (off + new.length)
def fillL (cs : List Lf) : List (Nat × Nat × List Lf) → Option (List Lf)
  | [] => some cs
  | (off, n, ls) :: r => if ls.length = n ∧ off + n ≤ cs.length then fillL (splice cs off ls) r else none
def leavesAll (a : Fr) : List (Nat × Nat × X) → Option (List (Nat × Nat × List Lf))
  | [] => some []
  | (off, n, x) :: r => (evX a x).leaves.bind fun ls => (leavesAll a r).map fun q => (off, n, ls) :: q
/-- The cells of an object that is there. -/
def Ob.live (o : Ob) : Bool := match o.st with | .dead => false | _ => true
def rdCells (h : Hp) (id off n : Nat) : Option (List Lf) :=
  match h[id]? with
  | some o => if o.live ∧ off + n ≤ o.cells.length then some ((o.cells.drop off).take n) else none
  | none => none
def wrCells (lim : Nat) (h : Hp) (id off : Nat) (new : List Lf) : Option Hp :=
  match h[id]? with
  | some ⟨cs, .own ty sz⟩ => if lim ≤ id ∧ off + new.length ≤ cs.length then some (h.set id ⟨splice cs off new, .own ty sz⟩) else none
  | _ => none
def srcCells (sz : Nat) (h : Hp) : CV → Option (Nat × List Lf)
  | .lf .nils => some (0, [])
  | .lf (.sl id off len sz') => if sz' = sz then (rdCells h id off (len * sz)).map fun cs => (len, cs) else none
  | _ => none
def appV (lim ty sz bytes : Nat) (h : Hp) (x y : CV) : Option (CV × Hp) :=
  (srcCells sz h y).bind fun (m, new) =>
  if m = 0 then
    match x with
    | .lf .nils => some (x, h)
    | .lf (.sl id off n sz') => if sz' = sz ∧ (rdCells h id off (n * sz)).isSome then some (x, h) else none
    | _ => none
  else
    match x with
    | .lf .nils => if m * bytes ≤ 140737488355328 then some (.lf (.sl h.length 0 m sz), h ++ [⟨new, .own ty sz⟩]) else none
    | .lf (.sl id off n sz') =>
      match h[id]? with
      | some ⟨cs, .own ty' sz''⟩ =>
        if lim ≤ id ∧ off = 0 ∧ sz' = sz ∧ sz'' = sz ∧ ty' = ty ∧ cs.length = n * sz ∧ (n + m) * bytes ≤ 140737488355328 then
          some (.lf (.sl h.length 0 (n + m) sz), h.set id ⟨[], .dead⟩ ++ [⟨cs ++ new, .own ty sz⟩])
        else none
      | _ => none
    | _ => none
def bytesL : List Lf → Option (List UInt8)
  | [] => some []
  | .int .u8 n :: r => (bytesL r).map fun q => UInt8.ofNat n.toNat :: q
  | _ => none
/-- Does it lead nowhere? -/
def Lf.plain : Lf → Bool
  | .ptr .. | .sl .. | .fn .. => false
  | _ => true
def TV.plain : TV → Bool
  | .lf l => l.plain
  | .agg ls => ls.all Lf.plain
def CV.plain : CV → Bool
  | .lf l => l.plain
  | .agg ls => ls.all Lf.plain
  | .tup ts => ts.all TV.plain
def boundV (d : Nat) : Option CV → Option Nat
  | none => some d
  | some (.lf (.int _ i)) => if 0 ≤ i then some i.toNat else none
  | _ => none

abbrev Call := FuncId → List CV → Hp → Nat → Option (CV × Hp)

def evO (call : Call) (lim : Nat) (o : LO) (a : Fr) (h : Hp) : Option (CV × Hp) :=
  match o with
  | .mv x => some (evX a x, h)
  | .pick c x y => match evX a c with
    | .lf (.bool b) => some (if b then evX a x else evX a y, h)
    | _ => none
  | .box ty x => (evX a x).leaves.map fun ls => (.lf (.ptr h.length 0), h ++ [⟨ls, .own ty 1⟩])
  | .alloc ty zero => some (.lf (.ptr h.length 0), h ++ [⟨zero, .own ty 1⟩])
  | .build zero parts => (leavesAll a parts).bind fun ps => (fillL zero ps).map fun cs => (.agg cs, h)
  | .lit ty sz len zero parts => (leavesAll a parts).bind fun ps => (fillL zero ps).map fun cs => (.lf (.sl h.length 0 len sz), h ++ [⟨cs, .own ty sz⟩])
  | .make ty sz bytes zero l c => match evX a l, evX a c with
    | .lf (.int .i64 n), .lf (.int .i64 m) =>
      if n = m ∧ 0 ≤ n ∧ n * bytes ≤ 140737488355328 then some (.lf (.sl h.length 0 n.toNat sz), h ++ [⟨(List.replicate n.toNat zero).flatten, .own ty sz⟩]) else none
    | _, _ => none
  | .load ag n x => match evX a x with
    | .lf (.ptr id off) => (rdCells h id off n).map fun ls => (mkV ag ls, h)
    | _ => none
  | .store n x y => match evX a x, (evX a y).leaves with
    | .lf (.ptr id off), some ls => if ls.length = n then (wrCells lim h id off ls).map fun h' => (un, h') else none
    | _, _ => none
  | .nilck x => match evX a x with
    | .lf (.ptr id off) => some (.lf (.ptr id off), h)
    | _ => none
  | .bin op x y => (binV op (evX a x) (evX a y)).map fun v => (v, h)
  | .beq neg x y => match evX a x, evX a y with
    | .lf (.bool p), .lf (.bool q) => some (.lf (.bool (if neg then !(p == q) else p == q)), h)
    | _, _ => none
  | .una op x => (unV op (evX a x)).map fun v => (v, h)
  | .toint k x => (tointV k (evX a x)).map fun v => (v, h)
  | .toflt k x => (tofltV k (evX a x)).map fun v => (v, h)
  | .tostr x => (srcCells 1 h (evX a x)).bind fun (_, cs) => (bytesL cs).map fun bs => (.lf (.str ⟨bs.toArray⟩), h)
  | .slice sz x lo hi => match evX a x with
    | .lf .nils => (boundV 0 (evO2 a hi)).bind fun hi' => (boundV 0 (evO2 a lo)).bind fun lo' => if lo' = 0 ∧ hi' = 0 then some (.lf .nils, h) else none
    | .lf (.sl id off n sz') => (boundV n (evO2 a hi)).bind fun hi' => (boundV 0 (evO2 a lo)).bind fun lo' =>
      if lo' ≤ hi' ∧ hi' ≤ n ∧ sz' = sz ∧ 0 < sz then some (.lf (.sl id (off + lo' * sz) (hi' - lo') sz), h) else none
    | _ => none
  | .sstr x lo hi => match evX a x with
    | .lf (.str s) => (boundV s.size (evO2 a hi)).bind fun hi' => (boundV 0 (evO2 a lo)).bind fun lo' =>
      if lo' ≤ hi' ∧ hi' ≤ s.size then some (.lf (.str (s.extract lo' hi')), h) else none
    | _ => none
  | .faddr off x => match evX a x with
    | .lf (.ptr id o) => some (.lf (.ptr id (o + off)), h)
    | _ => none
  | .field ag off n x => match evX a x with
    | .agg ls => if off + n ≤ ls.length then some (mkV ag ((ls.drop off).take n), h) else none
    | _ => none
  | .iaddr sz x i => match evX a x, evX a i with
    | .lf (.sl id off n sz'), .lf (.int _ j) => if 0 ≤ j ∧ j < n ∧ sz' = sz then some (.lf (.ptr id (off + j.toNat * sz)), h) else none
    | _, _ => none
  | .idx x i => match evX a x, evX a i with
    | .lf (.str s), .lf (.int _ j) => if h' : 0 ≤ j ∧ j.toNat < s.size then some (.lf (.int .u8 (s[j.toNat]'h'.2).toNat), h) else none
    | _, _ => none
  | .ext x i => match evX a x with
    | .tup ts => (ts[i]?).map fun t => (t.cv, h)
    | _ => none
  | .len x => match evX a x with
    | .lf .nils => some (.lf (.int .i64 0), h)
    | .lf (.sl _ _ n _) => some (.lf (.int .i64 n), h)
    | _ => none
  | .slen x => match evX a x with
    | .lf (.str s) => some (.lf (.int .i64 s.size), h)
    | _ => none
  | .app ty sz bytes x y => appV lim ty sz bytes h (evX a x) (evX a y)
  | .mnmx mx xs => (mnmxV mx (xs.map (evX a))).map fun v => (v, h)
  | .xop k xs => (xopV k (xs.map (evX a))).map fun v => (v, h)
  | .mkf f xs => (capsL (xs.map (evX a))).map fun cs => (.lf (.fn f cs), h)
  | .callv x xs => match evX a x with
    | .lf (.fn f cs) => call f (xs.map (evX a) ++ ptrs cs) h lim
    | _ => none
  | .call pure f xs =>
    if pure then (call f (xs.map (evX a)) h h.length).bind fun (v, _) => if v.plain then some (v, h) else none
    else call f (xs.map (evX a)) h lim
  | .bad => none

def wantedL (a : Fr) (g : Option (Nat × Bool)) : Bool :=
  match g with
  | none => true
  | some (t, b) => match a t with
    | .lf (.bool c) => c == b
    | _ => false
inductive Ex where
  | norm
  | exit (id : Nat)
  | ret
  deriving DecidableEq
def resOne (a : Fr) (h : Hp) : Rs → Option CV
  | .tmp t => some (a t)
  | .cell t ag n => match a t with
    | .lf (.ptr id off) => (rdCells h id off n).map (mkV ag)
    | _ => none
def resAll (a : Fr) (h : Hp) : List Rs → Option (List TV)
  | [] => some []
  | r :: rs => (resOne a h r).bind fun v => match v with
    | .tup _ => none
    | v => (resAll a h rs).map fun q => v.tv :: q
def resV (a : Fr) (h : Hp) : List Rs → Option CV
  | [r] => resOne a h r
  | rs => (resAll a h rs).map .tup
structure Sys where
  fs : FuncId → Option LFn
  xt : Call
def ok {α : Type} (o : Option α) (K : α → Prop) : Prop := match o with | some v => K v | none => False
def nc : Call := fun _ _ _ _ => none
/-- The frame with which a function begins. -/
def fr0 (args : List CV) : Fr := fun t => args.getD t un
/-- What is asked of a function's end. -/
def Fin (rs : List Rs) (K : CV → Hp → Prop) : Ex → Fr → Hp → Prop := fun e a h => match e with | .exit _ => False | _ => ok (resV a h rs) fun v => K v h
def Upto (id : Nat) (Q : Ex → Fr → Hp → Prop) : Ex → Fr → Hp → Prop := fun e a h => match e with | .exit j => if j = id then Q .norm a h else Q (.exit j) a h | e => Q e a h
def OT.ofL : List LOper → OT
  | [] => .nil
  | o :: r => .op o (OT.ofL r)

/-- Something to be run, with what is asked of its outcome. -/
inductive J where
  | code (lim : Nat) (c : LC) (a : Fr) (h : Hp) (Q : Ex → Fr → Hp → Prop)
  | ops (lim : Nat) (t : OT) (a : Fr) (h : Hp) (Q : Fr → Hp → Prop)
  | op (lim : Nat) (o : LO) (a : Fr) (h : Hp) (K : CV → Hp → Prop)
  | call (f : FuncId) (args : List CV) (h : Hp) (lim : Nat) (K : CV → Hp → Prop)
/-- It comes to an end, and what is asked of the outcome holds, whatever order is taken. -/
inductive Holds (S : Sys) : J → Prop
  | skip {lim : Nat} {a : Fr} {h : Hp} {Q : Ex → Fr → Hp → Prop} : Q .norm a h → Holds S (.code lim .skip a h Q)
  | reg {lim : Nat} {l : List LOper} {a : Fr} {h : Hp} {Q : Ex → Fr → Hp → Prop} : Holds S (.ops lim (OT.ofL l) a h (Q .norm)) → Holds S (.code lim (.reg l) a h Q)
  | any {lim : Nat} {t : OT} {a : Fr} {h : Hp} {Q : Ex → Fr → Hp → Prop} : Holds S (.ops lim t a h (Q .norm)) → Holds S (.code lim (.any t) a h Q)
  | seq {lim : Nat} {c d : LC} {a : Fr} {h : Hp} {R Q : Ex → Fr → Hp → Prop} : Holds S (.code lim c a h R) → (∀ a' h', R .norm a' h' → Holds S (.code lim d a' h' Q)) → (∀ e a' h', e ≠ .norm → R e a' h' → Q e a' h') → Holds S (.code lim (.seq c d) a h Q)
  | cond {lim : Nat} {x : X} {b : Bool} {c d : LC} {a : Fr} {h : Hp} {Q : Ex → Fr → Hp → Prop} : evX a x = .lf (.bool b) → Holds S (.code lim (if b = true then c else d) a h Q) → Holds S (.code lim (.cond x c d) a h Q)
  | block {lim id : Nat} {c : LC} {a : Fr} {h : Hp} {Q : Ex → Fr → Hp → Prop} : Holds S (.code lim c a h (Upto id Q)) → Holds S (.code lim (.block id c) a h Q)
  | loop {lim : Nat} {c : LC} {a : Fr} {h : Hp} {R Q : Ex → Fr → Hp → Prop} : Holds S (.code lim c a h R) → (∀ a' h', R .norm a' h' → Holds S (.code lim (.loop c) a' h' Q)) → (∀ e a' h', e ≠ .norm → R e a' h' → Q e a' h') → Holds S (.code lim (.loop c) a h Q)
  | exit {lim id : Nat} {a : Fr} {h : Hp} {Q : Ex → Fr → Hp → Prop} : Q (.exit id) a h → Holds S (.code lim (.exit id) a h Q)
  | ret {lim : Nat} {a : Fr} {h : Hp} {Q : Ex → Fr → Hp → Prop} : Q .ret a h → Holds S (.code lim .ret a h Q)
  | onil {lim : Nat} {a : Fr} {h : Hp} {Q : Fr → Hp → Prop} : Q a h → Holds S (.ops lim .nil a h Q)
  | oop {lim : Nat} {o : LOper} {r : OT} {a : Fr} {h : Hp} {R : CV → Hp → Prop} {Q : Fr → Hp → Prop} : wantedL a o.g = true → Holds S (.op lim o.o a h R) → (∀ v h', R v h' → Holds S (.ops lim r (upd a o.d v) h' Q)) → Holds S (.ops lim (.op o r) a h Q)
  | oskip {lim : Nat} {o : LOper} {r : OT} {a : Fr} {h : Hp} {Q : Fr → Hp → Prop} : wantedL a o.g = false → Holds S (.ops lim r (upd a o.d un) h Q) → Holds S (.ops lim (.op o r) a h Q)
  | oalt {lim : Nat} {s t : OT} {a : Fr} {h : Hp} {Q : Fr → Hp → Prop} : Holds S (.ops lim s a h Q) → Holds S (.ops lim t a h Q) → Holds S (.ops lim (.alt s t) a h Q)
  | plain {lim : Nat} {o : LO} {a : Fr} {h h' : Hp} {v : CV} {K : CV → Hp → Prop} : evO nc lim o a h = some (v, h') → K v h' → Holds S (.op lim o a h K)
  | call {lim : Nat} {f : FuncId} {xs : List X} {a : Fr} {h : Hp} {K : CV → Hp → Prop} : Holds S (.call f (xs.map (evX a)) h lim K) → Holds S (.op lim (.call false f xs) a h K)
  | callv {lim : Nat} {f : FuncId} {cs : List (Nat × Nat)} {x : X} {xs : List X} {a : Fr} {h : Hp} {F : LFn} {K : CV → Hp → Prop} : S.fs f = some F → evX a x = .lf (.fn f cs) → Holds S (.call f (xs.map (evX a) ++ ptrs cs) h lim K) → Holds S (.op lim (.callv x xs) a h K)
  | pure {lim : Nat} {f : FuncId} {xs : List X} {a : Fr} {h : Hp} {v : CV} {K : CV → Hp → Prop} : v.plain = true → Holds S (.call f (xs.map (evX a)) h h.length fun u _ => u = v) → K v h → Holds S (.op lim (.call true f xs) a h K)
  | fn {lim : Nat} {f : FuncId} {F : LFn} {args : List CV} {h : Hp} {K : CV → Hp → Prop} : S.fs f = some F → args.length = F.np → Holds S (.code lim F.code (fr0 args) h (Fin F.res K)) → Holds S (.call f args h lim K)
  | xt {lim : Nat} {f : FuncId} {args : List CV} {h h' : Hp} {v : CV} {K : CV → Hp → Prop} : S.fs f = none → S.xt f args h lim = some (v, h') → K v h' → Holds S (.call f args h lim K)
end Go.E
