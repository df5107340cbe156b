/-
  A pure machine for programs, and its soundness against the model: the lemmas hold as they stand.
-/
import GoSem.Core.Code
namespace Go.Hu

/-- What is known of a list's room behind its end: nothing; there is none; a right to extend it. -/
inductive Cap where
  | any | exact | tok (t : Nat)
  deriving DecidableEq, Repr

/-- Pure values. -/
inductive V where
  | undef | pend (n : Nat)
  | bool (b : Bool) | int (n : Int) | off (n : Nat)
  | map (l : Option Nat) | ptr (l o : Nat) | rptr (cs : List V) (o : Nat)
  | lst (xs : List V) (c : Cap) | sli (l off len cap : Nat)
  | fn (k : Nat) (first caps : List V) | yield (l : Nat) | nilfn
  | agg (cs : List V) | tup (vs : List V) | iter (l : Nat)
  deriving Inhabited

abbrev Env := Nat → V
def Env.set (e : Env) (d : Nat) (v : V) : Env := fun t => if t = d then v else e t
def Env.setO (e : Env) : Option Nat → V → Env
  | some d, v => e.set d v
  | none, _ => e

/-- A shape of a variable: one cell, or an aggregate of so many. -/
abbrev Sh := Option Nat

inductive Opd where
  | t (n : Nat) | c (v : V)
  deriving Inhabited
def ev (e : Env) : Opd → V
  | .t n => e n
  | .c v => v

def V.cells : V → List V
  | .agg cs => cs
  | v => [v]

/-- A value that takes one cell, and is known. -/
def V.scal : V → Bool
  | .bool _ | .int _ | .map _ | .ptr .. | .rptr .. | .lst .. | .sli .. | .fn .. | .yield _ | .nilfn => true
  | _ => false
def V.fits : Sh → V → Bool
  | none, v => v.scal
  | some n, .agg cs => cs.length == n && cs.all V.scal
  | some _, _ => false

mutual
def V.erase : V → V
  | .lst xs _ => .lst (eraseL xs) .any
  | .agg cs => .agg (eraseL cs)
  | .tup vs => .tup (eraseL vs)
  | .fn k f c => .fn k (eraseL f) (eraseL c)
  | .rptr cs o => .rptr (eraseL cs) o
  | .undef => .undef
  | .pend n => .pend n
  | .bool b => .bool b
  | .int n => .int n
  | .off n => .off n
  | .map l => .map l
  | .ptr l o => .ptr l o
  | .sli l o n c => .sli l o n c
  | .yield l => .yield l
  | .nilfn => .nilfn
  | .iter l => .iter l
def eraseL : List V → List V
  | [] => []
  | v :: vs => v.erase :: eraseL vs
end
/-- How a value is handed on: without rights; or, if one will, with the knowledge that a list has no room behind its end. -/
def pass : Bool → V → V
  | true, .lst xs .exact => .lst (eraseL xs) .exact
  | _, v => v.erase

def takeAt (sh : Sh) (cs : List V) (o : Nat) : Option V :=
  match sh with
  | none => cs[o]?
  | some n => if o + n ≤ cs.length then some (.agg ((cs.drop o).take n)) else none
def putAt (cs : List V) (o : Nat) (vs : List V) : Option (List V) :=
  if o + vs.length ≤ cs.length then some (cs.take o ++ vs ++ cs.drop (o + vs.length)) else none

/-- What a type's values are made of: a number, a truth value, a row of cells (numbers: true). -/
inductive Kd where
  | num | tru | row (ks : List Bool)
  deriving DecidableEq, Inhabited
def Kd.cells : Kd → List Bool
  | .num => [true]
  | .tru => [false]
  | .row ks => ks

/-- Equality of rows of cells that are numbers or truth values. -/
def eqCells : List V → List V → Option Bool
  | [], [] => some true
  | .int a :: xs, .int b :: ys => (eqCells xs ys).map (a == b && ·)
  | .bool a :: xs, .bool b :: ys => (eqCells xs ys).map (a == b && ·)
  | _, _ => none
def eqV : V → V → Option Bool
  | .int a, .int b => some (a == b)
  | .bool a, .bool b => some (a == b)
  | .agg xs, .agg ys => eqCells xs ys
  | _, _ => none

/-- Are these cells numbers (true) and truth values (false), as is told? -/
def kindsOk : List Bool → List V → Bool
  | [], [] => true
  | true :: ks, .int _ :: vs => kindsOk ks vs
  | false :: ks, .bool _ :: vs => kindsOk ks vs
  | _, _ => false
def kindOk : Kd → V → Bool
  | .num, .int _ => true
  | .tru, .bool _ => true
  | .row ks, .agg cs => kindsOk ks cs
  | _, _ => false
/-- Equality of values of a type with such cells. -/
def eqN (ks : Kd) (x y : V) : Option Bool := if kindOk ks x then eqV x y else none

def w64 (n : Int) : Int := (n + 9223372036854775808) % 18446744073709551616 - 9223372036854775808

/-- Operations that do not look at the heap, on their operands' values. -/
inductive POp where
  | mov | pick
  | bin (op : BinOp) | eq (neg : Bool) (ks : Kd) | not | neg
  | build (zero : List V) (places : List (Nat × Nat))
  | lit (zero : V) (len : Nat) (idx : List Nat) (sh : Sh)
  | fld (off : Nat) (sh : Sh)
  | idx (len sz : Nat) (sh : Sh)
  | mkfn (k nfirst : Nat)
  | ext (i : Nat)
  | len | cap | max | min
  | fa (off : Nat)
  | ia (len sz : Nat)
  | ea (sz : Nat)
  | eload (sh : Sh)
  | slc (sz : Nat) (lo hi mx : Bool)
  deriving Inhabited

def binV (op : BinOp) (x y : V) : Option V :=
  match x, y with
  | .int a, .int b =>
    match op with
    | .add => some (.int (w64 (a + b)))
    | .sub => some (.int (w64 (a - b)))
    | .mul => some (.int (w64 (a * b)))
    | .quo => if b = 0 then none else some (.int (w64 (a.tdiv b)))
    | .rem => if b = 0 then none else some (.int (a.tmod b))
    | .lss => some (.bool (decide (a < b)))
    | .leq => some (.bool (decide (a ≤ b)))
    | .gtr => some (.bool (decide (a > b)))
    | .geq => some (.bool (decide (a ≥ b)))
    | .shl => if 0 ≤ b ∧ b < 64 then some (.int (w64 (a * 2 ^ b.toNat))) else none
    | .shr => if 0 ≤ b ∧ b < 64 then some (.int (a.fdiv (2 ^ b.toNat))) else none
    | .and => some (.int (w64 ((BitVec.ofInt 64 a &&& BitVec.ofInt 64 b).toNat)))
    | .or => some (.int (w64 ((BitVec.ofInt 64 a ||| BitVec.ofInt 64 b).toNat)))
    | _ => none
  | _, _ => none

/-- A value whose cells are known. -/
def V.solid : V → Bool
  | .agg _ => true
  | v => v.scal
def fillV : List V → List (Nat × Nat) → List V → Option (List V)
  | cs, [], [] => some cs
  | cs, (o, n) :: ps, v :: vs =>
    if v.solid = true ∧ v.cells.length = n then (putAt cs o v.cells).bind fun cs => fillV cs ps vs else none
  | _, _, _ => none
def fillL : List V → List Nat → List V → Sh → Option (List V)
  | xs, [], [], _ => some xs
  | xs, i :: is, v :: vs, sh => if i < xs.length && v.fits sh then fillL (xs.set i v) is vs sh else none
  | _, _, _, _ => none

/-- Does a list's first element, if there is one, take so many cells? -/
def hd (xs : List V) (sz : Nat) : Bool := match xs with
  | [] => true
  | x :: _ => x.cells.length == sz

def slcV (sz : Nat) (xs : List V) (c : Cap) (lo hi : Int) (mx : Option Int) : Option V :=
  if 0 ≤ lo ∧ lo ≤ hi ∧ hi ≤ xs.length ∧ hd xs sz = true then
    match mx with
    | none => some (.lst ((xs.take hi.toNat).drop lo.toNat) (if lo = 0 ∧ hi = xs.length then c else .any))
    | some m => if m = hi then some (.lst ((xs.take hi.toNat).drop lo.toNat) .exact) else none
  else none

def slcM (sz l o c : Nat) (lo hi : Int) (mx : Option Int) : Option V :=
  let m : Int := mx.getD c
  if 0 ≤ lo ∧ lo ≤ hi ∧ hi ≤ m ∧ m ≤ c then some (.sli l (if m = lo then o else o + lo.toNat * sz) (hi - lo).toNat (m - lo).toNat) else none

/-- What an operation yields of its operands' values. -/
def pv : POp → List V → Option V
  | .mov, [x] => some x
  | .pick, [.bool c, a, b] => some (if c then a else b)
  | .bin op, [x, y] => binV op x y
  | .eq neg n, [x, y] => (eqN n x y).map fun b => .bool (b != neg)
  | .not, [.bool b] => some (.bool !b)
  | .neg, [.int n] => some (.int (w64 (0 - n)))
  | .build zero ps, vs => (fillV zero ps vs).map .agg
  | .lit zero len is sh, vs => (fillL (List.replicate len zero) is vs sh).map fun xs => .lst xs .exact
  | .fld o sh, [.agg cs] => takeAt sh cs o
  | .idx len sz sh, [.agg cs, .int i] => if 0 ≤ i ∧ i < len then takeAt sh cs (i.toNat * sz) else none
  | .mkfn k n, vs => if n ≤ vs.length then some (.fn k (vs.take n) (vs.drop n)) else none
  | .ext i, [.tup vs] => vs[i]?
  | .len, [.lst xs _] => some (.int xs.length)
  | .len, [.sli _ _ n _] => some (.int n)
  | .cap, [.sli _ _ _ c] => some (.int c)
  | .max, .int a :: vs => (vs.foldlM (fun m (v : V) => match v with | .int b => some (if b > m then b else m) | _ => none) a).map V.int
  | .min, .int a :: vs => (vs.foldlM (fun m (v : V) => match v with | .int b => some (if b < m then b else m) | _ => none) a).map V.int
  | .fa o, [.ptr l p] => some (.ptr l (p + o))
  | .fa o, [.rptr cs p] => some (.rptr cs (p + o))
  | .ia len sz, [.ptr l p, .int i] => if 0 ≤ i ∧ i < len then some (.ptr l (p + i.toNat * sz)) else none
  | .ia len sz, [.rptr cs p, .int i] => if 0 ≤ i ∧ i < len then some (.rptr cs (p + i.toNat * sz)) else none
  | .ea sz, [.lst xs _, .int i] => if 0 ≤ i then (xs[i.toNat]?).bind fun x => if x.cells.length = sz then some (.rptr x.cells 0) else none else none
  | .ea sz, [.sli l o n _, .int i] => if 0 ≤ i ∧ i < n then some (.ptr l (o + i.toNat * sz)) else none
  | .eload sh, [.rptr cs o] => takeAt sh cs o
  | .slc sz false false false, [.lst xs c] => slcV sz xs c 0 xs.length none
  | .slc sz true false false, [.lst xs c, .int lo] => slcV sz xs c lo xs.length none
  | .slc sz false true false, [.lst xs c, .int hi] => slcV sz xs c 0 hi none
  | .slc sz true true false, [.lst xs c, .int lo, .int hi] => slcV sz xs c lo hi none
  | .slc sz false true true, [.lst xs c, .int hi, .int m] => slcV sz xs c 0 hi (some m)
  | .slc sz true true true, [.lst xs c, .int lo, .int hi, .int m] => slcV sz xs c lo hi (some m)
  | .slc sz true false false, [.sli l o n c, .int lo] => slcM sz l o c lo n none
  | .slc sz false true false, [.sli l o _ c, .int hi] => slcM sz l o c 0 hi none
  | .slc sz true true false, [.sli l o _ c, .int lo, .int hi] => slcM sz l o c lo hi none
  | .slc sz true true true, [.sli l o _ c, .int lo, .int hi, .int m] => slcM sz l o c lo hi (some m)
  | _, _ => none

/-- Operations. (`p`: a promoted variable's slot, whose content lies in the slot itself.) -/
inductive Op where
  | p (d : Nat) (o : POp) (xs : List Opd)
  | la (d p : Nat) (q : Option Nat) (off : Nat)
  | lia (d p : Nat) (q : Option Nat) (len sz : Nat) (i : Opd)
  | lput (p : Nat) (sh : Sh) (x : Opd)
  | lset (p : Nat) (sh : Sh) (x : Opd)
  | lwhole (d p : Nat) (sh : Sh)
  | lload (d p q : Nat) (sh : Sh)
  | lstore (p q : Nat) (sh : Sh) (x : Opd)
  | pend (p : Nat) (sh : Sh)
  | rbox (p : Nat) (sh : Sh) (x : Opd)
  | rinit (p : Nat) (sh : Sh) (x : Opd)
  | hbox (p : Nat) (sh : Sh) (x : Opd)
  | hinit (p : Nat) (sh : Sh) (x : Opd)
  | load (d : Nat) (sh : Sh) (x : Opd)
  | store (sh : Sh) (x v : Opd)
  | mkmap (d : Nat)
  | mkslice (d : Nat) (zero : V) (sz : Nat) (n c : Opd)
  | lookup (d : Nat) (zero : V) (ok : Bool) (ks : Kd) (m k : Opd)
  | mapset (ks : Kd) (m k v : Opd) (sh : Sh)
  | range (d : Nat) (m : Opd)
  | next (d : Nat) (it : Opd)
  | entry (d : Nat) (it : Opd)
  | mlen (d : Nat) (m : Opd)
  | isnil (d : Nat) (neg : Bool) (x : Opd)
  | litM (d : Nat) (zero : V) (len : Nat) (idx : List Nat) (sh : Sh) (xs : List Opd)
  | append (d : Nat) (sz : Nat) (zero : V) (mt : Bool) (s x : Opd)
  | appendZ (d : Nat) (sz : Nat) (zero : V) (s n : Opd)
  | copy (d : Nat) (sz : Nat) (x y : Opd)
  | clear (sz : Nat) (zero : V) (x : Opd)
  | ovl (d : Nat) (x y : Opd)
  | frz (d : Nat) (sz : Nat) (sh : Sh)
  | lfrz (p off : Nat) (sz : Nat) (sh : Sh)
  | call (d : Option Nat) (quiet : Bool) (f : Opd) (args : List Opd)
  | fail
  deriving Inhabited

/-- The slot that an operation writes as its result (for one that is passed over). -/
def Op.dst : Op → Option Nat
  | .p d _ _ | .la d .. | .lia d .. | .lwhole d .. | .lload d .. | .load d .. | .mkmap d | .mkslice d .. | .lookup d .. | .range d _ | .next d _ | .entry d _ | .mlen d _ | .append d .. | .isnil d .. | .litM d .. | .appendZ d .. | .copy d .. | .ovl d .. => some d
  | .lput q _ _ | .pend q _ | .rbox q _ _ | .hbox q _ _ => some q
  | .call d .. => d
  | _ => none

/-- What is in the slot of an operation that is passed over. -/
def Op.skipV : Op → V
  | .lput _ _ _ => .undef
  | _ => .tup []

structure Ins where
  op : Op
  g : Option (Nat × Bool) := none
  deriving Inhabited

inductive Stm where
  | skip
  | reg (is : List Ins)
  | seq (a b : Stm)
  | cond (x : Opd) (a b : Stm)
  | block (id : Nat) (c : Stm)
  | loop (c : Stm)
  | rfunc (f : Opd) (ps own : List Nat) (assign body : Stm)
  | exit (id : Nat)
  | ret
  | refuse
  deriving Inhabited

/-- What an operation may write. -/
def Op.wr : Op → List Nat
  | .p d _ _ | .la d _ _ _ | .lia d _ _ _ _ _ | .lwhole d _ _ | .lload d _ _ _ | .load d _ _ | .mkmap d | .mkslice d _ _ _ _ | .lookup d _ _ _ _ _ | .range d _ | .next d _ | .entry d _ | .mlen d _ | .append d _ _ _ _ _ | .isnil d _ _ | .litM d _ _ _ _ _ | .appendZ d _ _ _ _ | .copy d _ _ _ | .ovl d _ _ | .frz d _ _ => [d]
  | .lput r _ _ | .lset r _ _ | .lstore r _ _ _ | .pend r _ | .rbox r _ _ | .rinit r _ _ | .hbox r _ _ | .hinit r _ _ | .lfrz r _ _ _ => [r]
  | .call d _ _ _ => d.toList
  | .store _ _ _ | .mapset _ _ _ _ _ | .clear _ _ _ | .fail => []
def Stm.wr : Stm → List Nat
  | .reg is => is.flatMap fun i => i.op.wr
  | .seq a b | .cond _ a b => a.wr ++ b.wr
  | .block _ c | .loop c => c.wr
  | _ => []

/-- No range over a function in it. -/
def Stm.noRf : Stm → Bool
  | .seq a b | .cond _ a b => a.noRf && b.noRf
  | .block _ c | .loop c => c.noRf
  | .rfunc _ _ _ _ _ => false
  | _ => true

inductive Ex where
  | normal | exit (id : Nat) | ret
  deriving DecidableEq

inductive LState where
  | ready | busy | done | exhausted
  deriving DecidableEq

structure LoopRec where
  state : LState
  jump : Option Ex
  env : Env
  ps : List Nat
  own : List Nat
  assign : Stm
  body : Stm

inductive PObj where
  | cells (cs : List V)
  | map (es : List (V × V))
  | iter (m : Option Nat) (n : Nat) (seen : List Nat)
  | tok (n : Nat)
  | loop (L : LoopRec)
  | dead

abbrev St := Nat → Option PObj
def St.set (s : St) (l : Nat) (o : PObj) : St := fun l' => if l' = l then some o else s l'
/-- All that was there is there still, as it was. -/
def St.le (s s' : St) : Prop := ∀ l o, s l = some o → s' l = some o
instance : LE St := ⟨St.le⟩

/-- The place of a key in a map's entries: `none`: keys that are not comparable here; `some none`: not there. -/
def findK (k : V) : List (V × V) → Option (Option Nat)
  | [] => some none
  | (k', _) :: es => match eqV k k' with
    | some true => some (some 0)
    | some false => (findK k es).map (·.map (· + 1))
    | none => none
/-- A value that can be a key. -/
def keyOk (ks : Kd) (k : V) : Bool := kindOk ks k

/-- How many cells a shape takes. -/
def shN : Sh → Nat
  | none => 1
  | some n => n
/-- Cells, taken together by elements. -/
def chunk (sh : Sh) (cs : List V) : Nat → List V
  | 0 => []
  | k + 1 => (match sh with | none => cs.headD .undef | some n => .agg (cs.take n)) :: chunk sh (cs.drop (shN sh)) k
/-- An element whose cells are known. -/
def V.row (x : V) : Bool := x.cells.all V.scal
/-- The cells of a source of append or copy, and how many elements they are. -/
def srcOf (s : St) (sz : Nat) : V → Option (List V × Nat)
  | .lst ys _ => if hd ys sz && ys.all V.row then some (ys.flatMap V.cells, ys.length) else none
  | .sli l o n _ => match s l with
    | some (.cells cs) => if o + n * sz ≤ cs.length then some ((cs.drop o).take (n * sz), n) else none
    | _ => none
  | _ => none
def zeros (zero : V) (n : Nat) : List V := (List.replicate n zero.cells).flatten

/-- Where an address into a promoted variable leads. -/
def offAt (e : Env) : Option Nat → Option Nat
  | none => some 0
  | some q => match e q with
    | .off n => some n
    | _ => none

/-- What a call comes to: function value, arguments, state, what must hold of result and state. -/
abbrev CP := V → List V → St → (V → St → Prop) → Prop
abbrev Post := Ex → Env → St → Prop

def maxLst : Nat := 1073741824

def wpO (C : CP) (o : Op) (e : Env) (s : St) (K : Env → St → Prop) : Prop :=
  match o with
  | .p d o xs => match pv o (xs.map (ev e)) with
    | some v => K (e.set d v) s
    | none => False
  | .la d p q off => match e p, offAt e q with
    | .agg _, some n => K (e.set d (.off (n + off))) s
    | _, _ => False
  | .lia d p q len sz i => match e p, offAt e q, ev e i with
    | .agg _, some n, .int i => 0 ≤ i ∧ i < (len : Int) ∧ K (e.set d (.off (n + i.toNat * sz))) s
    | _, _, _ => False
  | .lput p sh x => (ev e x).fits sh = true ∧ K (e.set p (ev e x)) s
  | .lset p sh x => (e p).fits sh = true ∧ (ev e x).fits sh = true ∧ K (e.set p (ev e x)) s
  | .lwhole d p sh => (e p).fits sh = true ∧ K (e.set d (e p)) s
  | .lload d p q sh => match e q with
    | .off o => match takeAt sh (e p).cells o with
      | some v => K (e.set d v) s
      | none => False
    | _ => False
  | .lstore p q sh x => match e q with
    | .off o => (ev e x).fits sh = true ∧ match e p with
      | .agg cs => match putAt cs o (ev e x).cells with
        | some cs => K (e.set p (.agg cs)) s
        | none => False
      | _ => False
    | _ => False
  | .pend p sh => K (e.set p (.pend (shN sh))) s
  | .rbox p sh x => (ev e x).fits sh = true ∧ K (e.set p (.rptr (ev e x).cells 0)) s
  | .rinit p sh x => e p = .pend (shN sh) ∧ (ev e x).fits sh = true ∧ K (e.set p (.rptr (ev e x).cells 0)) s
  | .hbox p sh x => (ev e x).fits sh = true ∧ ∀ l, s l = none → K (e.set p (.ptr l 0)) (s.set l (.cells (ev e x).cells))
  | .hinit p sh x => e p = .pend (shN sh) ∧ (ev e x).fits sh = true ∧ ∀ l, s l = none → K (e.set p (.ptr l 0)) (s.set l (.cells (ev e x).cells))
  | .load d sh x => match ev e x with
    | .rptr cs o => match takeAt sh cs o with
      | some v => K (e.set d v) s
      | none => False
    | .ptr l o => match s l with
      | some (.cells cs) => match takeAt sh cs o with
        | some v => K (e.set d v) s
        | none => False
      | _ => False
    | _ => False
  | .store sh x v => match ev e x with
    | .ptr l o => match s l with
      | some (.cells cs) => (ev e v).fits sh = true ∧ match putAt cs o (ev e v).cells with
        | some cs => K e (s.set l (.cells cs))
        | none => False
      | _ => False
    | _ => False
  | .mkmap d => ∀ l, s l = none → K (e.set d (.map (some l))) (s.set l (.map []))
  | .mkslice d zero sz n c => match ev e n, ev e c with
    | .int n, .int c => 0 ≤ n ∧ n ≤ c ∧ c ≤ (maxLst : Int) ∧ zero.cells.length = sz ∧ ∀ l, s l = none → K (e.set d (.sli l 0 n.toNat c.toNat)) (s.set l (.cells ((List.replicate c.toNat zero.cells).flatten)))
    | _, _ => False
  | .lookup d zero ok n m k => keyOk n (ev e k) = true ∧ match ev e m with
    | .map none => K (e.set d (if ok then .tup [zero, .bool false] else zero)) s
    | .map (some r) => match s r with
      | some (.map es) => match findK (ev e k) es with
        | some (some i) => match es[i]? with
          | some x => K (e.set d (if ok then .tup [x.2, .bool true] else x.2)) s
          | none => False
        | some none => K (e.set d (if ok then .tup [zero, .bool false] else zero)) s
        | none => False
      | _ => False
    | _ => False
  | .mapset n m k v sh => keyOk n (ev e k) = true ∧ (ev e v).fits sh = true ∧ match ev e m with
    | .map (some r) => match s r with
      | some (.map es) => match findK (ev e k) es with
        | some (some i) => K e (s.set r (.map (es.set i (ev e k, ev e v))))
        | some none => K e (s.set r (.map (es ++ [(ev e k, ev e v)])))
        | none => False
      | _ => False
    | _ => False
  | .range d m => match ev e m with
    | .map none => ∀ l, s l = none → K (e.set d (.iter l)) (s.set l (.iter none 0 []))
    | .map (some r) => match s r with
      | some (.map es) => ∀ l, s l = none → K (e.set d (.iter l)) (s.set l (.iter (some r) es.length []))
      | _ => False
    | _ => False
  | .next d it => match ev e it with
    | .iter l => match s l with
      | some (.iter none _ _) => K (e.set d (.tup [.bool false])) s
      | some (.iter (some r) n seen) => match s r with
        | some (.map es) => es.length = n ∧ ((∀ i, i < n → i ∈ seen) → K (e.set d (.tup [.bool false])) s) ∧
            ∀ i x, es[i]? = some x → i ∉ seen → K (e.set d (.tup [.bool true, x.1, x.2])) (s.set l (.iter (some r) n (seen ++ [i])))
        | _ => False
      | _ => False
    | _ => False
  | .entry d it => match ev e it with
    | .iter l => match s l with
      | some (.iter (some r) n seen) => match s r with
        | some (.map es) => es.length = n ∧ match seen.getLast? with
          | some i => match es[i]? with
            | some x => K (e.set d (.tup [x.1, x.2])) s
            | none => False
          | none => False
        | _ => False
      | _ => False
    | _ => False
  | .mlen d m => match ev e m with
    | .map none => K (e.set d (.int 0)) s
    | .map (some r) => match s r with
      | some (.map es) => K (e.set d (.int es.length)) s
      | _ => False
    | _ => False
  | .isnil d neg x => match ev e x with
    | .lst [] _ => ∀ b : Bool, K (e.set d (.bool (b != neg))) s
    | .lst _ _ => K (e.set d (.bool neg)) s
    | _ => False
  | .litM d zero len is sh xs => match fillL (List.replicate len zero) is (xs.map (ev e)) sh with
    | some ys => (zero.fits sh = true) ∧ ∀ l, s l = none → K (e.set d (.sli l 0 len len)) (s.set l (.cells (ys.flatMap V.cells)))
    | none => False
  | .append d sz zero mt sl x => zero.cells.length = sz ∧ match ev e sl with
    | .lst xs c => match ev e x with
      | .lst ys _ =>
        xs.length + ys.length ≤ maxLst ∧ hd xs sz = true ∧ hd ys sz = true ∧ ys.all V.row = true ∧
        if ys = [] then K (e.set d (.lst xs c)) s
        else match c with
          | .exact =>
            if mt then xs.all V.row = true ∧ ∀ l c', s l = none → xs.length + ys.length ≤ c' →
              K (e.set d (.sli l 0 (xs.length + ys.length) c')) (s.set l (.cells (xs.flatMap V.cells ++ ys.flatMap V.cells ++ zeros zero (c' - (xs.length + ys.length)))))
            else ∀ l, s l = none → K (e.set d (.lst (xs ++ ys) (.tok l))) (s.set l (.tok (xs ++ ys).length))
          | .tok t => match s t with
            | some (.tok n) => n = xs.length ∧ ∀ l, s l = none → K (e.set d (.lst (xs ++ ys) (.tok l))) ((s.set t .dead).set l (.tok (xs ++ ys).length))
            | _ => False
          | .any => False
      | _ => False
    | .sli l o n c => mt = true ∧ match srcOf s sz (ev e x), s l with
      | some (news, m), some (.cells cs) => n + m ≤ maxLst ∧ o + n * sz ≤ cs.length ∧
        if n + m ≤ c then match putAt cs (o + n * sz) news with
          | some cs' => K (e.set d (.sli l o (n + m) c)) (s.set l (.cells cs'))
          | none => False
        else ∀ l' c', s l' = none → n + m ≤ c' →
          K (e.set d (.sli l' 0 (n + m) c')) (s.set l' (.cells ((cs.drop o).take (n * sz) ++ news ++ zeros zero (c' - (n + m)))))
      | _, _ => False
    | _ => False
  | .appendZ d sz zero sl x => zero.cells.length = sz ∧ match ev e sl, ev e x with
    | .sli l o n c, .int k => 0 ≤ k ∧ match s l with
      | some (.cells cs) => n + k.toNat ≤ maxLst ∧ o + n * sz ≤ cs.length ∧
        if n + k.toNat ≤ c then match putAt cs (o + n * sz) (zeros zero k.toNat) with
          | some cs' => K (e.set d (.sli l o (n + k.toNat) c)) (s.set l (.cells cs'))
          | none => False
        else ∀ l' c', s l' = none → n + k.toNat ≤ c' →
          K (e.set d (.sli l' 0 (n + k.toNat) c')) (s.set l' (.cells ((cs.drop o).take (n * sz) ++ zeros zero k.toNat ++ zeros zero (c' - (n + k.toNat)))))
      | _ => False
    | _, _ => False
  | .copy d sz x y => match ev e x, srcOf s sz (ev e y) with
    | .sli l o n _, some (news, m) => match s l with
      | some (.cells cs) => match putAt cs o (news.take (min m n * sz)) with
        | some cs' => K (e.set d (.int (min m n : Nat))) (s.set l (.cells cs'))
        | none => False
      | _ => False
    | _, _ => False
  | .clear sz zero x => zero.cells.length = sz ∧ match ev e x with
    | .sli l o n _ => match s l with
      | some (.cells cs) => match putAt cs o (zeros zero n) with
        | some cs' => K e (s.set l (.cells cs'))
        | none => False
      | _ => False
    | _ => False
  | .ovl d x y => match ev e x, ev e y with
    | .lst xs _, .sli l _ _ _ => (xs.all fun x => !x.cells.isEmpty) = true ∧ match s l with
      | some (.cells _) => K (e.set d (.bool false)) s
      | _ => False
    | _, _ => False
  | .frz d sz sh => match e d with
    | .lst xs c => K (e.set d (.lst xs c)) s
    | .sli l o n c => sz = shN sh ∧ n ≤ c ∧ match s l with
      | some (.cells cs) => o + n * sz ≤ cs.length ∧ K (e.set d (.lst (chunk sh (cs.drop o) n) .any)) (s.set l .dead)
      | _ => False
    | _ => False
  | .lfrz p off sz sh => match e p with
    | .agg ps => match ps[off]? with
      | some (.lst _ _) => K e s
      | some (.sli l o n c) => sz = shN sh ∧ n ≤ c ∧ match s l with
        | some (.cells cs) => o + n * sz ≤ cs.length ∧ K (e.set p (.agg (ps.set off (.lst (chunk sh (cs.drop o) n) .any)))) (s.set l .dead)
        | _ => False
      | _ => False
    | _ => False
  | .call d q f args => ∃ th, C (ev e f) (args.map fun a => pass th (ev e a)) s fun v s' => match q with
    | true => s ≤ s' ∧ K (e.setO d v) s'
    | false => K (e.setO d v) s'
  | .fail => False

def wpI (C : CP) (i : Ins) (e : Env) (s : St) (K : Env → St → Prop) : Prop :=
  match i.g with
  | none => wpO C i.op e s K
  | some (t, want) => match e t with
    | .bool b => if b = want then wpO C i.op e s K else K (e.setO i.op.dst i.op.skipV) s
    | .tup [] => K (e.setO i.op.dst i.op.skipV) s
    | _ => False

def wpIs (C : CP) : List Ins → Env → St → (Env → St → Prop) → Prop
  | [], e, s, K => K e s
  | i :: is, e, s, K => wpI C i e s fun e s => wpIs C is e s K

/-- The least that a loop whose round is `F` comes to. -/
def LoopW (F : Post → Env → St → Prop) (Q : Post) (e : Env) (s : St) : Prop :=
  ∀ I : Env → St → Prop, (∀ e s, F (fun x e s => match x with | .normal => I e s | x => Q x e s) e s → I e s) → I e s

def Env.bind (e : Env) : List Nat → List V → Env
  | p :: ps, v :: vs => (e.set p v).bind ps vs
  | _, _ => e
def Env.clear (e : Env) (own : List Nat) : Env := fun t => if own.contains t then .undef else e t

def wpS (C : CP) : Stm → Post → Env → St → Prop
  | .skip, Q, e, s => Q .normal e s
  | .reg is, Q, e, s => wpIs C is e s (Q .normal)
  | .seq a b, Q, e, s => wpS C a (fun x e s => match x with | .normal => wpS C b Q e s | x => Q x e s) e s
  | .cond x a b, Q, e, s => match ev e x with
    | .bool true => wpS C a Q e s
    | .bool false => wpS C b Q e s
    | _ => False
  | .block id c, Q, e, s => wpS C c (fun x e s => match x with | .exit j => if j = id then Q .normal e s else Q (.exit j) e s | x => Q x e s) e s
  | .loop c, Q, e, s => LoopW (wpS C c) Q e s
  | .rfunc f ps own assign body, Q, e, s =>
    ∀ l, s l = none → C (ev e f) [.yield l] (s.set l (.loop ⟨.ready, none, e, ps, own, assign, body⟩)) fun _ s' =>
      match s' l with
      | some (.loop L) => L.state ≠ .busy ∧ match L.jump with
        | none => Q .normal e (s'.set l .dead)
        | some x => Q x e (s'.set l .dead)
      | _ => False
  | .exit id, Q, e, s => Q (.exit id) e s
  | .ret, Q, e, s => Q .ret e s
  | .refuse, _, _, _ => False

inductive Res where
  | tmp (t : Nat)
  | loc (p : Nat) (sh : Sh)
  | heap (t : Nat) (sh : Sh)

structure PFunc where
  nargs : Nat
  res : List Res
  body : Stm

def resV (e : Env) (s : St) : Res → Option V
  | .tmp t => some (e t)
  | .loc p sh => if (e p).fits sh then some (e p) else none
  | .heap t sh => match e t with
    | .ptr l o => match s l with
      | some (.cells cs) => takeAt sh cs o
      | _ => none
    | .rptr cs o => takeAt sh cs o
    | _ => none
def resVs (e : Env) (s : St) : List Res → Option (List V)
  | [] => some []
  | r :: rs => match resV e s r, resVs e s rs with
    | some v, some vs => some (v :: vs)
    | _, _ => none
def oneV : List V → V
  | [v] => v
  | vs => .tup vs

def enter (args : List V) : Env := fun t => (args[t]?).getD .undef

abbrev PProg := Nat → Option PFunc

/-- One step of what a call comes to, over what calls come to. -/
def bodyC (P : PProg) (C : CP) (f : V) (args : List V) (s : St) (Q : V → St → Prop) : Prop :=
  match f with
  | .fn k first caps => match P k with
    | some F => F.nargs = (first ++ args ++ caps).length ∧
      wpS C F.body (fun x e s => (match x with | .exit _ => False | _ => True) ∧ match resVs e s F.res with
        | some vs => ∃ th, Q (pass th (oneV vs)) s
        | none => False) (enter (first ++ args ++ caps)) s
    | none => False
  | .yield l => match s l with
    | some (.loop L) => L.state = .ready ∧ L.ps.length = args.length ∧
      wpS C L.assign (fun x e s => x = .normal ∧ match s l with
        | some (.loop L1) => L1.state = .ready ∧ wpS C L.body (fun x _ s => match s l with
            | some (.loop L2) => match x with
              | .normal => Q (.bool true) (s.set l (.loop { L2 with state := .ready, jump := none }))
              | x => Q (.bool false) (s.set l (.loop { L2 with state := .done, jump := some x }))
            | _ => False) e (s.set l (.loop { L1 with state := .busy }))
        | _ => False) ((L.env.clear L.own).bind L.ps args) s
    | _ => False
  | _ => False

def CP.Mono (C : CP) : Prop := ∀ f args s Q Q', C f args s Q → (∀ v s, Q v s → Q' v s) → C f args s Q'

/-- What a call comes to: the least that is closed under the functions' bodies. -/
def Call (P : PProg) : CP := fun f args s Q =>
  ∀ C : CP, CP.Mono C → (∀ f args s Q, bodyC P C f args s Q → C f args s Q) → C f args s Q

end Go.Hu
