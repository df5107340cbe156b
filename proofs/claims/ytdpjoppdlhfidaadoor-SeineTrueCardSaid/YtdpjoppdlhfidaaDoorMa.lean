/-
  A pure machine for programs, and its soundness against the model: the lemmas hold as they stand.
-/
import Derived.Test.YtdpjoppdlhfidaaDoorVa
import GoSem.Core.View
import GoSem.Core.Program
import GoSem.Core.Region
import GoSem.Core.Layout
import GoSem.Op.Equal
import Derived.Laws.Sem
import Derived.Laws.World
import Derived.Laws.Cells
import Derived.Laws.CopyRow
import Derived.Laws.Rows
import Derived.Laws.Entries
import Derived.Deep.MidRow
import Derived.Deep.AppendSrc
import Derived.Laws.Slices
import Derived.ChangeKeysEq
import Derived.Laws.StructEq
import Derived.Laws.Cover3
namespace Go.Hu

structure Hint where
  prom : List Nat
  ro : List Nat
  /-- Addresses of elements may be written through. -/
  gen : Bool := false
  /-- The slots whose literals, or appended slices, may be written into. -/
  mt : List Nat := []
  /-- Before (true) or behind a region: what is frozen there: a slot; or a promoted variable and a place in it; an element's cells and shape. -/
  fr : List (Nat × Bool × Nat × Option Nat × Nat × Sh) := []
  /-- Addresses of elements that are read through only, although others are written through. -/
  rd : List Nat := []

/-- What a compilation hangs on: the program, our numbers of its functions, what its variables hold. -/
structure Ctx where
  P : Program
  nm : FuncId → Option Nat
  gl : Nat → Option (List V)

mutual
def cV : Value → Option V
  | .bool b => some (.bool b)
  | .int .i64 n => some (.int n)
  | .map none => some (.map none)
  | .slice none 0 0 => some (.lst [] .exact)
  | .nilFunc => some .nilfn
  | .agg ⟨cs⟩ => (cVs cs).map .agg
  | _ => none
def cVs : List Value → Option (List V)
  | [] => some []
  | v :: vs => (cV v).bind fun x => (cVs vs).map (x :: ·)
end

def _root_.Go.TypeDesc.row : TypeDesc → Bool
  | .struct _ | .array _ _ => true
  | _ => false

namespace Ctx
variable (X : Ctx)
def size (t : TypeId) : Option Nat := (X.P.info? t).map (·.size)
/-- The shape of a type's variables (none: of no cells, or not in the program). -/
def sh (t : TypeId) : Option Sh :=
  match X.P.underlying t, X.size t with
  | some d, some n => if n = 0 then none else if d.row then some (some n) else if n = 1 then some none else none
  | _, _ => none
def zero (t : TypeId) : Option V := ((X.P.info? t).bind (·.zero)).bind cV
def kindsF (K : TypeId → Option Kd) : Nat → List Field → Option (List Bool)
  | _, [] => some []
  | o, f :: fs => if f.offset = o ∧ f.name ≠ "_" then (K f.type).bind fun k => if (X.sh f.type).map shN = some k.cells.length then (kindsF K (o + k.cells.length) fs).map (k.cells ++ ·) else none else none
/-- Is a type's equality that of its cells? Then: which of them are numbers. -/
def kinds : Nat → TypeId → Option Kd
  | 0, _ => none
  | d + 1, t => match X.P.underlying t with
    | some .bool => some .tru
    | some (.int .i64) => some .num
    | some (.struct fs) => if X.P.stoodInHeld t then none else (kindsF X (kinds d) 0 fs.toList).map .row
    | some (.array n e) => (kinds d e).bind fun k => if (X.sh e).map shN = some k.cells.length then some (.row (List.replicate n k.cells).flatten) else none
    | _ => none

/-- A field's place. -/
def place (fs : Array Field) (i : Nat) : Option (Nat × Nat) := (fs[i]?).bind fun f => (X.size f.type).map fun n => (f.offset, n)
def opd (h : Hint) : Operand → Option Opd
  | .tmp t => if h.prom.contains t then none else some (.t t)
  | .const v => (cV v).map .c
  | .func f => (X.nm f).map fun k => .c (.fn k [] [])
  | .global g => (X.gl g).map fun cs => .c (.rptr cs 0)
def opds (h : Hint) (xs : Array Operand) : Option (List Opd) := xs.toList.mapM (X.opd h)
end Ctx

inductive AI where
  | loc (p : Nat) | ro | gen

abbrev Tab := List (Nat × AI)
def Tab.find (t : Tab) (a : Nat) : Option AI := (t.find? (·.1 == a)).map (·.2)

/-- Where an address that an operand holds leads. -/
inductive Base where
  | whole (p : Nat) | loc (p q : Nat) | ro | gen

def baseOf (h : Hint) (tab : Tab) : Operand → Option Base
  | .tmp a =>
    if h.prom.contains a then some (.whole a) else
    match tab.find a with
    | some (.loc p) => some (.loc p a)
    | some .ro => some .ro
    | some .gen => some .gen
    | none => some (if h.ro.contains a then .ro else .gen)
  | .global _ => some .ro
  | _ => none

def fieldOf (X : Ctx) (t : TypeId) (f : Nat) : Option (Nat × TypeId) :=
  match X.P.underlying t with
  | some (.struct fs) => (fs[f]?).map fun f => (f.offset, f.type)
  | _ => none

/-- Is there, in a region, a store to the very address that a slot holds? -/
def storedTo (ops : Array Oper) (q : Nat) : Bool := ops.any fun o => match o.op with | .store _ (.tmp a) _ => a == q | _ => false

/-- The library's function that asks whether two slices share memory. -/
def isOverlaps (X : Ctx) (g : FuncId) : Bool := (X.P.funcs[g]?).any fun f => f.name == "slices.overlaps[huer/api.SeineNote]" && f.origin == "slices.overlaps" && f.body.isNone &&
  ((f.params[0]?).any fun t => match X.P.underlying t with | some (.slice e) => (X.size e).any (0 < ·) | _ => false)

def ovlF (X : Ctx) : Operand → Bool
  | .func g => isOverlaps X g
  | _ => false
/-- The slot of a result that is no variable's. -/
def cdst (h : Hint) (o : Oper) : Option Nat := o.dst.bind fun d => if h.prom.contains d || h.ro.contains d then none else some d
def cval (h : Hint) (tab : Tab) (o : Oper) (po : POp) (xs : Option (List Opd)) : Option (Op × Tab) :=
  (cdst h o).bind fun d => xs.map fun xs => (.p d po xs, tab)
def copt (X : Ctx) (h : Hint) : Option Operand → Option (List Opd)
  | some x => (X.opd h x).map ([·])
  | none => some []

def compileOp (X : Ctx) (h : Hint) (ops : Array Oper) (tab : Tab) (o : Oper) : Option (Op × Tab) :=
  match o.op with
  | .move x | .assign x => cval h tab o .mov (do some [← X.opd h x])
  | .pick c a b => cval h tab o .pick (do some [← X.opd h c, ← X.opd h a, ← X.opd h b])
  | .alloc t => do
    let p ← o.dst
    let z ← X.zero t
    let sh ← X.sh t
    if !z.fits sh then none else
    if h.prom.contains p then some (.lput p sh (.c z), tab)
    else if storedTo ops p then some (.pend p sh, tab)
    else if h.ro.contains p then some (.rbox p sh (.c z), tab)
    else some (.hbox p sh (.c z), tab)
  | .box t x => do
    let p ← o.dst
    let x ← X.opd h x
    let sh ← X.sh t
    if h.prom.contains p then some (.lput p sh x, tab)
    else if h.ro.contains p then some (.rbox p sh x, tab)
    else some (.hbox p sh x, tab)
  | .store t a x => do
    let v ← X.opd h x
    let sh ← X.sh t
    match ← baseOf h tab a, a with
    | .whole p, _ => some (.lset p sh v, tab)
    | .loc p q, _ => some (.lstore p q sh v, tab)
    | _, .tmp q =>
      if (ops.any fun o => o.dst == some q && (o.op matches .alloc _)) then
        some (if h.ro.contains q then .rinit q sh v else .hinit q sh v, tab)
      else some (.store sh (.t q) v, tab)
    | _, _ => none
  | .load t a => do
    let d ← cdst h o
    let sh ← X.sh t
    match ← baseOf h tab a with
    | .whole p => some (.lwhole d p sh, tab)
    | .loc p q => some (.lload d p q sh, tab)
    | .ro => cval h tab o (.eload sh) (do some [← X.opd h a])
    | .gen => some (.load d sh (← X.opd h a), tab)
  | .fieldAddr s x f => do
    let d ← cdst h o
    let (off, ft) ← fieldOf X s f
    let _ ← X.sh ft
    match ← baseOf h tab x with
    | .whole p => some (.la d p none off, (d, .loc p) :: tab)
    | .loc p q => some (.la d p (some q) off, (d, .loc p) :: tab)
    | .ro => some (.p d (.fa off) [← X.opd h x], (d, .ro) :: tab)
    | .gen => some (.p d (.fa off) [← X.opd h x], (d, .gen) :: tab)
  | .indexAddr t x i => do
    let d ← cdst h o
    let i ← X.opd h i
    match ← X.P.underlying t with
    | .array len e =>
      let sz ← X.size e
      match ← baseOf h tab x with
      | .whole p => some (.lia d p none len sz i, (d, .loc p) :: tab)
      | .loc p q => some (.lia d p (some q) len sz i, (d, .loc p) :: tab)
      | .ro => some (.p d (.ia len sz) [← X.opd h x, i], (d, .ro) :: tab)
      | .gen => some (.p d (.ia len sz) [← X.opd h x, i], (d, .gen) :: tab)
    | .slice e =>
      let sz ← X.size e
      some (.p d (.ea sz) [← X.opd h x, i], (d, if h.gen && !h.rd.contains d then .gen else .ro) :: tab)
    | _ => none
  | .field t x f => do
    let (off, ft) ← fieldOf X t f
    cval h tab o (.fld off (← X.sh ft)) (do some [← X.opd h x])
  | .index t x i => do
    match ← X.P.underlying t with
    | .array len e => cval h tab o (.idx len (← X.size e) (← X.sh e)) (do some [← X.opd h x, ← X.opd h i])
    | _ => none
  | .build t parts => do
    let z ← X.zero t
    match ← X.P.underlying t with
    | .struct fs =>
      let places ← parts.toList.mapM fun ix => X.place fs ix.1
      if !(fs.all fun f => (X.size f.type).isSome) then none else
      cval h tab o (.build z.cells places) (X.opds h (parts.map (·.2)))
    | .array _ e =>
      let sz ← X.size e
      cval h tab o (.build z.cells (parts.toList.map fun ix => (ix.1 * sz, sz))) (X.opds h (parts.map (·.2)))
    | _ => none
  | .buildSlice t len parts => do
    match ← X.P.underlying t with
    | .slice e =>
      let z ← X.zero e
      let sh ← X.sh e
      if !z.fits sh || !decide (len * shN sh ≤ 2 ^ 24) then none else
      if (o.dst.any h.mt.contains) then some (.litM (← cdst h o) z len (parts.toList.map (·.1)) sh (← X.opds h (parts.map (·.2))), tab)
      else cval h tab o (.lit z len (parts.toList.map (·.1)) sh) (X.opds h (parts.map (·.2)))
    | _ => none
  | .binOp op t x y _ =>
    let xy : Option (List Opd) := do some [← X.opd h x, ← X.opd h y]
    match op with
    | .eql => match X.P.underlying t, y with
      | some (.slice _), .const (.slice none 0 0) => do some (.isnil (← cdst h o) false (← X.opd h x), tab)
      | _, _ => do if X.P.eqGuardType X.P.depth t then none else cval h tab o (.eq false (← X.kinds 8 t)) xy
    | .neq => match X.P.underlying t, y with
      | some (.slice _), .const (.slice none 0 0) => do some (.isnil (← cdst h o) true (← X.opd h x), tab)
      | _, _ => do if X.P.eqGuardType X.P.depth t then none else cval h tab o (.eq true (← X.kinds 8 t)) xy
    | op => cval h tab o (.bin op) xy
  | .unOp op _ x => match op with
    | .not => cval h tab o .not (do some [← X.opd h x])
    | .neg => cval h tab o .neg (do some [← X.opd h x])
    | _ => none
  | .makeFunc (.func f) first captured => do cval h tab o (.mkfn (← X.nm f) first.size) (X.opds h (first ++ captured))
  | .makeMap _ none => do some (.mkmap (← cdst h o), tab)
  | .makeSlice t n c => do
    match ← X.P.underlying t with
    | .slice e =>
      let z ← X.zero e
      let sh ← X.sh e
      if !z.fits sh || !((X.P.info? e).map (·.bytes)).any (· ≤ 4096) then none else
      match o.dst.any h.mt.contains, n, c with
      | false, .const (.int .i64 n), .const (.int .i64 c) => if n == c && 0 ≤ n && n ≤ 1024 then cval h tab o (.lit z n.toNat [] sh) (some []) else none
      | _, _, _ => some (.mkslice (← cdst h o) z (shN sh) (← X.opd h n) (← X.opd h c), tab)
    | _ => none
  | .slice t x lo hi mx => do
    match ← X.P.underlying t with
    | .slice el =>
      let sz ← X.size el
      cval h tab o (.slc sz lo.isSome hi.isSome mx.isSome) (do some ((← X.opd h x) :: ((← copt X h lo) ++ (← copt X h hi) ++ (← copt X h mx))))
    | _ => none
  | .lookup t m k ok => do
    match ← X.P.underlying t with
    | .map kt e => some (.lookup (← cdst h o) (← X.zero e) ok (← X.kinds 8 kt) (← X.opd h m) (← X.opd h k), tab)
    | _ => none
  | .mapUpdate t m k v | .insert t m k v => do
    match ← X.P.underlying t with
    | .map kt e => some (.mapset (← X.kinds 8 kt) (← X.opd h m) (← X.opd h k) (← X.opd h v) (← X.sh e), tab)
    | _ => none
  | .range t x => do
    match ← X.P.underlying t with
    | .map _ _ => some (.range (← cdst h o) (← X.opd h x), tab)
    | _ => none
  | .next it false => do some (.next (← cdst h o) (← X.opd h it), tab)
  | .entry it => do some (.entry (← cdst h o) (← X.opd h it), tab)
  | .extract x i => cval h tab o (.ext i) (do some [← X.opd h x])
  | .call { callee := .value f, args, .. } => do
    if ovlF X f then
      match ← X.opds h args with
      | [x, y] => some (.ovl (← cdst h o) x y, tab)
      | _ => none
    else
    match o.dst with
    | some _ => some (.call (some (← cdst h o)) false (← X.opd h f) (← X.opds h args), tab)
    | none => some (.call none false (← X.opd h f) (← X.opds h args), tab)
  | .call { callee := .builtin b, args, argTypes } => do
    let t ← argTypes[0]?
    match b, ← X.P.underlying t with
    | .len, .slice _ => cval h tab o .len (X.opds h args)
    | .len, .map _ _ => match ← X.opds h args with
      | [m] => some (.mlen (← cdst h o) m, tab)
      | _ => none
    | .cap, .slice _ => cval h tab o .cap (X.opds h args)
    | .max, .int .i64 => cval h tab o .max (X.opds h args)
    | .min, .int .i64 => cval h tab o .min (X.opds h args)
    | .append, .slice e =>
      let z ← X.zero e
      let sh ← X.sh e
      if !z.fits sh || !((X.P.info? e).map (·.bytes)).any (· ≤ 4096) then none else
      match ← X.opds h args, (argTypes[1]?).bind X.P.underlying with
      | [s, x], some (.slice e') => if e == e' then some (.append (← cdst h o) (shN sh) z (o.dst.any h.mt.contains) s x, tab) else none
      | [s, x], some (.int .i64) => some (.appendZ (← cdst h o) (shN sh) z s x, tab)
      | _, _ => none
    | .copy, .slice e =>
      match ← X.opds h args, (argTypes[1]?).bind X.P.underlying with
      | [x, y], some (.slice e') => if e == e' then some (.copy (← cdst h o) (shN (← X.sh e)) x y, tab) else none
      | _, _ => none
    | .clear, .slice e =>
      let z ← X.zero e
      let sh ← X.sh e
      if !z.fits sh then none else
      match ← X.opds h args, o.dst with
      | [x], none => some (.clear (shN sh) z x, tab)
      | _, _ => none
    | _, _ => none
  | .panic _ => some (.fail, tab)
  | .makeInterface t _ => match X.P.underlying t with
    | some (.interface _) | none => none
    | some _ => cval h tab o .mov (some [.c .undef])
  | _ => none

/-! ## Footprints: which operations may change places -/
def Opd.reads : Opd → List Nat
  | .t n => [n]
  | .c _ => []
def Op.reads : Op → List Nat
  | .p _ _ xs => xs.flatMap Opd.reads
  | .la _ r q _ => r :: q.toList
  | .lia _ r q _ _ i => r :: (q.toList ++ i.reads)
  | .lput _ _ x => x.reads
  | .lset r _ x => r :: x.reads
  | .lwhole _ r _ => [r]
  | .lload _ r q _ => [r, q]
  | .lstore r q _ x => r :: q :: x.reads
  | .pend _ _ => []
  | .rbox _ _ x | .hbox _ _ x => x.reads
  | .rinit r _ x | .hinit r _ x => r :: x.reads
  | .load _ _ x => x.reads
  | .store _ x v => x.reads ++ v.reads
  | .mkmap _ => []
  | .mkslice _ _ _ n c => n.reads ++ c.reads
  | .lookup _ _ _ _ m k => m.reads ++ k.reads
  | .mapset _ m k v _ => m.reads ++ k.reads ++ v.reads
  | .range _ m | .mlen _ m => m.reads
  | .next _ it | .entry _ it => it.reads
  | .isnil _ _ x => x.reads
  | .litM _ _ _ _ _ xs => xs.flatMap Opd.reads
  | .append _ _ _ _ s x => s.reads ++ x.reads
  | .appendZ _ _ _ s x => s.reads ++ x.reads
  | .copy _ _ x y => x.reads ++ y.reads
  | .clear _ _ x => x.reads
  | .ovl _ x y => x.reads ++ y.reads
  | .frz d _ _ => [d]
  | .lfrz r _ _ _ => [r]
  | .call _ _ f args => f.reads ++ args.flatMap Opd.reads
  | .fail => []
def Ins.reads (i : Ins) : List Nat := i.op.reads ++ (i.g.map (·.1)).toList
def Ins.writes (i : Ins) : List Nat := i.op.wr

inductive Cls where
  | none | readC | readM | make | append | wmap | call (quiet : Bool) | write
  deriving DecidableEq
def Op.cls : Op → Cls
  | .p _ _ _ | .la _ _ _ _ | .lia _ _ _ _ _ _ | .lput _ _ _ | .lset _ _ _ | .lwhole _ _ _ | .lload _ _ _ _ | .lstore _ _ _ _ | .pend _ _ | .rbox _ _ _ | .rinit _ _ _ => .none
  | .load _ _ _ => .readC
  | .lookup _ _ _ _ _ _ | .mlen _ _ => .readM
  | .mapset _ _ _ _ _ => .wmap
  | .mkmap _ | .hbox _ _ _ => .make
  | .append _ _ _ false _ _ => .append
  | .litM _ _ _ _ _ _ => .make
  | .call _ q _ _ => .call q
  | _ => .write
/-- May the first, which stands before the second, be carried out behind it? -/
def Cls.free : Cls → Cls → Bool
  | .none, _ | _, .none
  | .readC, .readC | .readC, .readM | .readC, .make | .readC, .append | .readC, .wmap | .readC, .call true
  | .readM, .readC | .wmap, .readC | .append, .readC | .append, .readM
  | .readM, .readM | .readM, .make | .readM, .append | .readM, .call true => true
  | _, _ => false
def disj (xs ys : List Nat) : Bool := xs.all fun x => !ys.contains x
/-- May two instructions change places? -/
def Ins.free (i j : Ins) : Bool :=
  disj i.writes j.reads && disj i.writes j.writes && disj i.reads j.writes && i.op.cls.free j.op.cls

/-- For each operation of a region the set (as bits) of those that surely come before it. -/
def befores (ops : Array Oper) : List Nat :=
  ops.toList.foldl (fun acc o => acc ++ [o.after.toList.foldl (fun s ed => if Region.binds .any ed then s ||| 2 ^ ed.on ||| acc.getD ed.on 0 else s) 0]) []

def quieted (i : Ins) : Ins := match i.op with
  | .call d _ f args => { i with op := .call d true f args }
  | _ => i

/-- Each two that nothing orders may change places. (With it: calls beside which something is read are quiet.) -/
def pairsOk (bs : List Nat) (is : List Ins) : Bool :=
  is.zipIdx.all fun (x, i) => is.zipIdx.all fun (y, j) => !(decide (i < j)) || (bs.getD j 0).testBit i || x.free y
def markQuiet (bs : List Nat) (is : List Ins) : List Ins :=
  is.zipIdx.map fun (x, i) =>
    if (x.op.cls matches .call _) && (is.zipIdx.any fun (y, j) => (y.op.cls == .readC || y.op.cls == .readM) && !(if i < j then (bs.getD j 0).testBit i else (bs.getD i 0).testBit j)) then quieted x else x

/-- Which slots hold addresses into which promoted variables (some), which wait for their first value (none), behind some instructions. -/
abbrev AT := List (Nat × Option Nat)
def AT.kills (i : Ins) (x : Nat × Option Nat) : Bool := i.op.wr.contains x.1 || (match i.op with | .lput r _ _ => x.2 == some r | _ => false)
def AT.adds (i : Ins) : Option (Nat × Option Nat) := match i.op with
  | .la d r _ _ | .lia d r _ _ _ _ => some (d, some r)
  | .pend r _ => some (r, none)
  | _ => none
def AT.step (t : AT) (i : Ins) : AT := (AT.adds i).toList ++ t.filter fun x => !AT.kills i x
def AT.wants : Op → Option (Nat × Option Nat)
  | .la _ r (some q) _ | .lia _ r (some q) _ _ _ | .lload _ r q _ | .lstore r q _ _ => some (q, some r)
  | .rinit r _ _ | .hinit r _ _ => some (r, none)
  | _ => none
def AT.needs (t : AT) (o : Op) : Bool := (AT.wants o).all t.contains
def scanOk : AT → List Ins → Bool
  | _, [] => true
  | t, i :: is => t.needs i.op && scanOk (t.step i) is

/-- A promoted variable's slot is written by its laying alone. -/
def promOk (h : Hint) : Op → Bool
  | .lput _ _ _ => true
  | op => op.dst.all fun d => !h.prom.contains d
def _root_.Go.Hu.Op.isCall : Op → Bool
  | .call _ _ _ _ => true
  | _ => false
def valueCall : Go.Op → Bool
  | .call { callee := .value _, .. } => true
  | _ => false
/-- A guard's slot. -/
def guardOf (h : Hint) (ops : Array Oper) : Option (Nat × Bool) → Option (Option (Nat × Bool))
  | none => some none
  | some (j, b) => ((ops[j]?).bind (·.dst)).bind fun d => if h.prom.contains d then none else some (some (d, b))
def compileOps (X : Ctx) (h : Hint) (ops : Array Oper) : List Oper → Tab → Option (List Ins)
  | [], _ => some []
  | o :: os, tab => (compileOp X h ops tab o).bind fun r =>
    if r.1.dst != o.dst || !promOk h r.1 || (r.1.isCall && !valueCall o.op) then none else
    (guardOf h ops o.guard).bind fun g => (compileOps X h ops os r.2).map fun rest => ⟨r.1, g⟩ :: rest

def compileReg (X : Ctx) (h : Hint) (ops : Array Oper) (draw : Bool) : Option (List Ins) := do
  let is ← compileOps X h ops ops.toList []
  if !scanOk [] is then none else
  if draw then
    let bs := befores ops
    let is := markQuiet bs is
    if pairsOk bs is && ops.toList.zipIdx.all (fun (o, i) => o.after.all fun ed => !Region.binds .any ed || decide (ed.on < i)) then some is else none
  else some is

def Stm.inss : Stm → List Ins
  | .reg is => is
  | .seq a b | .cond _ a b => a.inss ++ b.inss
  | .block _ c | .loop c => c.inss
  | .rfunc _ _ _ a b => a.inss ++ b.inss
  | _ => []
/-- The parameters of ranges over functions. -/
def Stm.pss : Stm → List Nat
  | .seq a b | .cond _ a b => a.pss ++ b.pss
  | .block _ c | .loop c => c.pss
  | .rfunc _ ps _ a b => ps ++ (a.pss ++ b.pss)
  | _ => []
/-- The promoted variables that code lays anew; those that it writes. -/
def laidIn (c : Stm) : List Nat := c.inss.filterMap fun i => match i.op with | .lput r _ _ => some r | _ => none
def wroteIn (c : Stm) : List Nat := c.inss.filterMap fun i => match i.op with | .lset r _ _ | .lstore r _ _ _ => some r | _ => none

/-- What is frozen before (true) or behind a region. -/
def ghosts (h : Hint) (id : Nat) (before : Bool) : List Ins := h.fr.filterMap fun x => if x.1 == id && x.2.1 == before then some ⟨match x.2.2.2.1 with | none => .frz x.2.2.1 x.2.2.2.2.1 x.2.2.2.2.2 | some o => .lfrz x.2.2.1 o x.2.2.2.2.1 x.2.2.2.2.2, none⟩ else none
def frOk (h : Hint) : Bool := h.fr.all fun x => x.2.2.2.1.isSome == h.prom.contains x.2.2.1 && decide (0 < shN x.2.2.2.2.2)

def compileS (X : Ctx) (h : Hint) : Code → Option Stm
  | .skip | .label _ => some .skip
  | .region id ops draw => (compileReg X h ops draw).bind fun r =>
    if frOk h then
      some (match ghosts h id true, ghosts h id false with
        | [], [] => .reg r
        | a, b => .seq (.reg a) (.seq (.reg r) (.reg b)))
    else none
  | .seq a b => (compileS X h a).bind fun x => (compileS X h b).map fun y => .seq x y
  | .cond c a b => (X.opd h c).bind fun c => (compileS X h a).bind fun x => (compileS X h b).map fun y => .cond c x y
  | .block id c => (compileS X h c).map fun x => .block id x
  | .loop c => (compileS X h c).map .loop
  | .scope c => compileS X h c
  | .rangeFunc f ps assign body => (compileS X h assign).bind fun a => (compileS X h body).bind fun b =>
    let own := laidIn a ++ laidIn b
    if a.noRf && b.noRf && (wroteIn a ++ wroteIn b).all own.contains && ps.toList.all (fun q => !h.prom.contains q && !h.ro.contains q) then
      (X.opd h f).map fun f => .rfunc f ps.toList own a b
    else none
  | .exit id => some (.exit id)
  | .ret => some .ret
  | .refuse _ => some .refuse
  | _ => none

def compileF (X : Ctx) (h : Hint) (fn : Func) : Option PFunc := do
  let body ← compileS X h (← fn.body)
  let n := fn.params.size + fn.nfree
  let res ← fn.results.toList.mapM fun
    | .tmp t => if h.prom.contains t then none else some (Res.tmp t)
    | .cell a t => do
      let sh ← X.sh t
      some (if h.prom.contains a then .loc a sh else .heap a sh)
  if decide (n ≤ fn.ntmps) && h.prom.all (fun p => decide (n ≤ p)) && (body.inss.all fun i => i.op.wr.all fun d => decide (d < fn.ntmps)) && (body.pss.all fun d => decide (d < fn.ntmps)) then
    some { nargs := n, res, body }
  else none

end Go.Hu

namespace Go.Hu

abbrev Heap := Array Obj
def cellH (H : Heap) (b j : Nat) : Option Value := match H[b]? with
  | some (.cells c _ _) => c[j]?
  | _ => none
theorem cell?_eq (w : World) (b j : Nat) : w.cell? ⟨b, j, none⟩ = cellH w.heap b j := by
  simp only [World.cell?, cellH]
  cases w.heap[b]? with
  | none => rfl
  | some o => cases o <;> rfl

/-- The ghost: which block an object lies in; which row a right to extend speaks of; which cells stay as they are for ever; which blocks a loop's record leans on. -/
structure Gh where
  β : Nat → Option Nat
  τ : Nat → Option (Nat × Nat × Nat × Nat)
  Z : Nat → Nat → Prop
  κ : Nat → Nat → Prop

structure Gh.Le (g g' : Gh) : Prop where
  β : ∀ l b, g.β l = some b → g'.β l = some b
  τ : ∀ t x, g.τ t = some x → g'.τ t = some x
  Z : ∀ b j, g.Z b j → g'.Z b j

theorem Gh.Le.refl (g : Gh) : g.Le g := ⟨fun _ _ h => h, fun _ _ h => h, fun _ _ h => h⟩
theorem Gh.Le.trans {g g1 g2 : Gh} (h : g.Le g1) (h' : g1.Le g2) : g.Le g2 :=
  ⟨fun l b x => h'.β l b (h.β l b x), fun t y x => h'.τ t y (h.τ t y x), fun b j x => h'.Z b j (h.Z b j x)⟩

def capOk (g : Gh) (c : Cap) (b base sz n cap : Nat) : Prop := match c with
  | .any => True
  | .exact => cap = n
  | .tok t => g.τ t = some (b, base, sz, cap) ∧ 0 < n

inductive Enc (nm : FuncId → Option Nat) (g : Gh) (H : Heap) : V → Value → Prop where
  | undef (v : Value) : Enc nm g H .undef v
  | pend (n : Nat) (v : Value) : Enc nm g H (.pend n) v
  | off (n : Nat) (v : Value) : Enc nm g H (.off n) v
  | bool (b : Bool) : Enc nm g H (.bool b) (.bool b)
  | int (n : Int) : Enc nm g H (.int n) (.int .i64 n)
  | nilmap : Enc nm g H (.map none) (.map none)
  | map {l b : Nat} (h : g.β l = some b) : Enc nm g H (.map (some l)) (.map (some b))
  | ptr {l b o : Nat} (h : g.β l = some b) : Enc nm g H (.ptr l o) (.pointer (some ⟨b, o, none⟩))
  | rptr {cs : List V} {b base o : Nat} {vs : Nat → Value} (hc : ∀ j, j < cs.length → cellH H b (base + j) = some (vs j)) (hz : ∀ j, j < cs.length → g.Z b (base + j))
      (he : ∀ j x, cs[j]? = some x → Enc nm g H x (vs j)) : Enc nm g H (.rptr cs o) (.pointer (some ⟨b, base + o, none⟩))
  | nillst {c : Cap} (hc : ∀ t, c ≠ .tok t) : Enc nm g H (.lst [] c) (.slice none 0 0)
  | lst {xs : List V} {c : Cap} {b base sz cap : Nat} {vs : Nat → Value} (hs : ∀ x ∈ xs, x.cells.length = sz)
      (hc : ∀ j, j < (xs.flatMap V.cells).length → cellH H b (base + j) = some (vs j)) (hz : ∀ j, j < (xs.flatMap V.cells).length → g.Z b (base + j))
      (he : ∀ j x, (xs.flatMap V.cells)[j]? = some x → Enc nm g H x (vs j)) (hk : capOk g c b base sz xs.length cap) (hn : xs.length ≤ cap) :
      Enc nm g H (.lst xs c) (.slice (some ⟨b, base, none⟩) xs.length cap)
  | sli {l b o n c : Nat} (h : g.β l = some b) : Enc nm g H (.sli l o n c) (.slice (some ⟨b, o, none⟩) n c)
  | fn {k : Nat} {f : FuncId} {fs cs : List V} {fv cv : Array Value} (h : nm f = some k) (h1 : fs.length = fv.size) (h2 : cs.length = cv.size)
      (e1 : ∀ j x, fs[j]? = some x → Enc nm g H x (fv.getD j undef)) (e2 : ∀ j x, cs[j]? = some x → Enc nm g H x (cv.getD j undef)) :
      Enc nm g H (.fn k fs cs) (.func (.func f) fv cv)
  | yield {l b : Nat} (h : g.β l = some b) : Enc nm g H (.yield l) (.func (.yield b) #[] #[])
  | nilfn : Enc nm g H .nilfn .nilFunc
  | agg {cs : List V} {c : Array Value} (h : cs.length = c.size) (he : ∀ j x, cs[j]? = some x → Enc nm g H x (c.getD j undef)) : Enc nm g H (.agg cs) (.agg c)
  | tup {cs : List V} {c : Array Value} (h : cs.length = c.size) (he : ∀ j x, cs[j]? = some x → Enc nm g H x (c.getD j undef)) : Enc nm g H (.tup cs) (.tuple c)
  | iter {l b : Nat} (h : g.β l = some b) : Enc nm g H (.iter l) (.pointer (some ⟨b, 0, none⟩))

theorem capOk.mono {g g' : Gh} (hg : g.Le g') {c : Cap} {b base sz n cap : Nat} (h : capOk g c b base sz n cap) : capOk g' c b base sz n cap := by
  cases c with
  | any => trivial
  | exact => exact h
  | tok t => exact ⟨hg.τ _ _ h.1, h.2⟩

/-- What a cell that stays holds in one heap it holds in the other. -/
def Stays (g : Gh) (H H' : Heap) : Prop := ∀ b j, g.Z b j → cellH H' b j = cellH H b j
theorem Stays.refl (g : Gh) (H : Heap) : Stays g H H := fun _ _ _ => rfl

theorem Enc.mono {nm : FuncId → Option Nat} {g g' : Gh} {H H' : Heap} (hg : g.Le g') (hH : Stays g H H') {x : V} {v : Value} (h : Enc nm g H x v) : Enc nm g' H' x v := by
  induction h with
  | undef v => exact .undef v
  | pend n v => exact .pend n v
  | off n v => exact .off n v
  | bool b => exact .bool b
  | int n => exact .int n
  | nilmap => exact .nilmap
  | map h => exact .map (hg.β _ _ h)
  | ptr h => exact .ptr (hg.β _ _ h)
  | rptr hc hz _ ih => exact .rptr (fun j hj => (hH _ _ (hz j hj)).trans (hc j hj)) (fun j hj => hg.Z _ _ (hz j hj)) ih
  | nillst hc => exact .nillst hc
  | lst hs hc hz _ hk hn ih => exact .lst hs (fun j hj => (hH _ _ (hz j hj)).trans (hc j hj)) (fun j hj => hg.Z _ _ (hz j hj)) ih (hk.mono hg) hn
  | sli h => exact .sli (hg.β _ _ h)
  | fn h h1 h2 _ _ ih1 ih2 => exact .fn h h1 h2 ih1 ih2
  | yield h => exact .yield (hg.β _ _ h)
  | nilfn => exact .nilfn
  | agg h _ ih => exact .agg h ih
  | tup h _ ih => exact .tup h ih
  | iter h => exact .iter (hg.β _ _ h)

section
variable {nm : FuncId → Option Nat} {g : Gh} {H : Heap}

/-- Cells, one by one. -/
def EncL (nm : FuncId → Option Nat) (g : Gh) (H : Heap) (cs : List V) (c : Array Value) : Prop :=
  cs.length = c.size ∧ ∀ j x, cs[j]? = some x → Enc nm g H x (c.getD j undef)

theorem EncL.mono {g' : Gh} {H' : Heap} (hg : g.Le g') (hH : Stays g H H') {cs : List V} {c : Array Value} (h : EncL nm g H cs c) : EncL nm g' H' cs c :=
  ⟨h.1, fun j x hx => (h.2 j x hx).mono hg hH⟩
theorem EncL.nil : EncL nm g H [] #[] := ⟨rfl, fun j x h => by simp at h⟩
theorem EncL.get {cs : List V} {c : Array Value} (h : EncL nm g H cs c) {j : Nat} {x : V} (hx : cs[j]? = some x) : ∃ v, c[j]? = some v ∧ Enc nm g H x v := by
  have hj : j < cs.length := (List.getElem?_eq_some_iff.1 hx).1
  have hc : j < c.size := h.1 ▸ hj
  refine ⟨c[j], by simp [hc], ?_⟩
  have := h.2 j x hx
  simpa [Array.getD, hc] using this
theorem EncL.of_toList {cs : List V} {c : List Value} (hn : cs.length = c.length) (h : ∀ (j : Nat) x v, cs[j]? = some x → c[j]? = some v → Enc nm g H x v) : EncL nm g H cs c.toArray := by
  refine ⟨by simpa using hn, fun j x hx => ?_⟩
  have hj : j < c.length := hn ▸ (List.getElem?_eq_some_iff.1 hx).1
  have := h j x c[j] hx (by simp [hj])
  simpa [Array.getD, hj] using this

/-- The cells of a value. -/
theorem Enc.cells {x : V} {v : Value} (h : Enc nm g H x v) (hf : (∃ cs, x = .agg cs) ∨ x.scal = true) : EncL nm g H x.cells v.cells := by
  have one : ∀ {x : V} {v : Value}, x.cells = [x] → v.cells = #[v] → Enc nm g H x v → EncL nm g H x.cells v.cells := by
    intro x v h1 h2 h
    rw [h1, h2]
    refine ⟨rfl, fun j y hy => ?_⟩
    cases j with
    | zero => simp at hy; subst hy; simpa using h
    | succ j => simp at hy
  cases h with
  | agg h1 he => exact ⟨h1, he⟩
  | undef => rcases hf with ⟨_, h⟩ | h <;> cases h
  | pend => rcases hf with ⟨_, h⟩ | h <;> cases h
  | off => rcases hf with ⟨_, h⟩ | h <;> cases h
  | tup => rcases hf with ⟨_, h⟩ | h <;> cases h
  | iter => rcases hf with ⟨_, h⟩ | h <;> cases h
  | bool b => exact one rfl rfl (.bool b)
  | int n => exact one rfl rfl (.int n)
  | nilmap => exact one rfl rfl .nilmap
  | map h => exact one rfl rfl (.map h)
  | ptr h => exact one rfl rfl (.ptr h)
  | rptr hc hz he => exact one rfl rfl (.rptr hc hz he)
  | nillst hc => exact one rfl rfl (.nillst hc)
  | lst hs hc hz he hk hn => exact one rfl rfl (.lst hs hc hz he hk hn)
  | sli h => exact one rfl rfl (.sli h)
  | fn h h1 h2 e1 e2 => exact one rfl rfl (.fn h h1 h2 e1 e2)
  | yield h => exact one rfl rfl (.yield h)
  | nilfn => exact one rfl rfl .nilfn

theorem fits_or {sh : Sh} {x : V} (h : x.fits sh = true) : (∃ cs, x = .agg cs) ∨ x.scal = true := by
  cases sh with
  | none => exact .inr h
  | some n => cases x <;> simp [V.fits] at h; exact .inl ⟨_, rfl⟩
theorem fits_len {sh : Sh} {x : V} (h : x.fits sh = true) : x.cells.length = shN sh := by
  cases sh with
  | none => cases x <;> simp [V.fits, V.scal] at h <;> rfl
  | some n => cases x <;> simp [V.fits] at h; simp [V.cells, shN, h.1]
theorem fits_scal {sh : Sh} {x : V} (h : x.fits sh = true) : ∀ y ∈ x.cells, y.scal = true := by
  cases sh with
  | none => cases x <;> simp [V.fits, V.scal] at h <;> simp [V.cells, V.scal]
  | some n => cases x <;> simp [V.fits] at h; simpa [V.cells] using h.2
/-- A scalar's value takes one cell. -/
theorem Enc.oneCell {x : V} {v : Value} (h : Enc nm g H x v) (hs : x.scal = true) : v.oneCell' = true ∧ v.cells = #[v] := by
  cases h <;> first | exact ⟨rfl, rfl⟩ | (simp [V.scal] at hs)
theorem Enc.of_agg {cs : List V} {v : Value} (h : Enc nm g H (.agg cs) v) : ∃ c, v = .agg c ∧ EncL nm g H cs c := by
  cases h with
  | agg h he => exact ⟨_, rfl, h, he⟩
theorem Enc.of_tup {cs : List V} {v : Value} (h : Enc nm g H (.tup cs) v) : ∃ c, v = .tuple c ∧ EncL nm g H cs c := by
  cases h with
  | tup h he => exact ⟨_, rfl, h, he⟩
theorem Enc.of_int {n : Int} {v : Value} (h : Enc nm g H (.int n) v) : v = .int .i64 n := by cases h; rfl
theorem Enc.of_tup0 {v : Value} (h : Enc nm g H (.tup []) v) : v = .tuple #[] := by
  cases h with
  | tup h _ => exact congrArg Value.tuple (Array.eq_empty_of_size_eq_zero h.symm)
theorem Enc.of_bool {b : Bool} {v : Value} (h : Enc nm g H (.bool b) v) : v = .bool b := by cases h; rfl

/-- Forgetting rights: what erases, tells still. -/
theorem eraseL_get : ∀ (xs : List V) (j : Nat), (eraseL xs)[j]? = (xs[j]?).map V.erase
  | [], j => by simp [eraseL]
  | x :: xs, 0 => by simp [eraseL]
  | x :: xs, j + 1 => by simp [eraseL, eraseL_get xs j]
theorem eraseL_length : ∀ (xs : List V), (eraseL xs).length = xs.length
  | [] => by simp [eraseL]
  | x :: xs => by simp [eraseL, eraseL_length xs]
theorem eraseL_eq_map : ∀ (xs : List V), eraseL xs = xs.map V.erase
  | [] => by simp [eraseL]
  | x :: xs => by simp [eraseL, eraseL_eq_map xs]
theorem cells_erase (x : V) : x.erase.cells = eraseL x.cells := by
  cases x <;> simp [V.erase, V.cells, eraseL]
theorem flat_erase (xs : List V) : (eraseL xs).flatMap V.cells = eraseL (xs.flatMap V.cells) := by
  induction xs with
  | nil => simp [eraseL]
  | cons x xs ih => simp only [eraseL, List.flatMap_cons, ih, cells_erase]; simp [eraseL_eq_map]
theorem Enc.erase {x : V} {v : Value} (h : Enc nm g H x v) : Enc nm g H x.erase v := by
  induction h with
  | undef v => simpa [V.erase] using Enc.undef v
  | pend n v => simpa [V.erase] using Enc.pend n v
  | off n v => simpa [V.erase] using Enc.off n v
  | bool b => simpa [V.erase] using Enc.bool b
  | int n => simpa [V.erase] using Enc.int n
  | nilmap => simpa [V.erase] using Enc.nilmap
  | map h => simpa [V.erase] using Enc.map h
  | ptr h => simpa [V.erase] using Enc.ptr h
  | rptr hc hz _ ih =>
    simp only [V.erase]
    refine .rptr (by simpa [eraseL_length] using hc) (by simpa [eraseL_length] using hz) fun j x hx => ?_
    rw [eraseL_get] at hx
    obtain ⟨y, hy, rfl⟩ := Option.map_eq_some_iff.1 hx
    exact ih j y hy
  | nillst hc => simp only [V.erase, eraseL]; exact .nillst (by simp)
  | @lst xs c b base sz cap vs hs hc hz _ hk hn ih =>
    simp only [V.erase]
    have hl : (eraseL xs).length = xs.length := eraseL_length xs
    rw [← hl]
    refine .lst (sz := sz) ?_ (vs := vs) ?_ ?_ ?_ trivial (by rw [hl]; exact hn)
    · intro x hx
      rw [eraseL_eq_map, List.mem_map] at hx
      obtain ⟨y, hy, rfl⟩ := hx
      rw [cells_erase, eraseL_length]
      exact hs y hy
    · rw [flat_erase, eraseL_length]; exact hc
    · rw [flat_erase, eraseL_length]; exact hz
    · intro j x hx
      rw [flat_erase, eraseL_get] at hx
      obtain ⟨y, hy, rfl⟩ := Option.map_eq_some_iff.1 hx
      exact ih j y hy
  | sli h => simpa [V.erase] using Enc.sli h
  | fn h h1 h2 _ _ ih1 ih2 =>
    simp only [V.erase]
    refine .fn h (by rw [eraseL_length]; exact h1) (by rw [eraseL_length]; exact h2) ?_ ?_
    · intro j x hx
      rw [eraseL_get] at hx
      obtain ⟨y, hy, rfl⟩ := Option.map_eq_some_iff.1 hx
      exact ih1 j y hy
    · intro j x hx
      rw [eraseL_get] at hx
      obtain ⟨y, hy, rfl⟩ := Option.map_eq_some_iff.1 hx
      exact ih2 j y hy
  | yield h => simpa [V.erase] using Enc.yield h
  | nilfn => simpa [V.erase] using Enc.nilfn
  | agg h _ ih =>
    simp only [V.erase]
    refine .agg (by rw [eraseL_length]; exact h) ?_
    intro j x hx
    rw [eraseL_get] at hx
    obtain ⟨y, hy, rfl⟩ := Option.map_eq_some_iff.1 hx
    exact ih j y hy
  | tup h _ ih =>
    simp only [V.erase]
    refine .tup (by rw [eraseL_length]; exact h) ?_
    intro j x hx
    rw [eraseL_get] at hx
    obtain ⟨y, hy, rfl⟩ := Option.map_eq_some_iff.1 hx
    exact ih j y hy
  | iter h => simpa [V.erase] using Enc.iter h
theorem Enc.pass {x : V} {v : Value} {th : Bool} (h : Enc nm g H x v) : Enc nm g H (Hu.pass th x) v := by
  have he := h.erase
  unfold Hu.pass
  split
  · rename_i xs
    simp only [V.erase] at he
    cases h with
    | nillst hc => simp only [eraseL]; exact .nillst (by simp)
    | @lst _ _ b base sz cap vs hs hc hz he' hk hn =>
      have hl : (eraseL xs).length = xs.length := eraseL_length xs
      have hlst : Enc nm g H (.lst (eraseL xs) .exact) (.slice (some ⟨b, base, none⟩) (eraseL xs).length cap) := by
        refine .lst (sz := sz) (vs := vs) ?_ ?_ ?_ ?_ (by simp only [capOk] at hk ⊢; rw [hl]; exact hk) (by rw [hl]; exact hn)
        · intro x hx
          rw [eraseL_eq_map, List.mem_map] at hx
          obtain ⟨y, hy, rfl⟩ := hx
          rw [cells_erase, eraseL_length]
          exact hs y hy
        · rw [flat_erase, eraseL_length]; exact hc
        · rw [flat_erase, eraseL_length]; exact hz
        · intro j x hx
          rw [flat_erase, eraseL_get] at hx
          obtain ⟨y, hy, rfl⟩ := Option.map_eq_some_iff.1 hx
          exact (he' j y hy).erase
      rw [hl] at hlst
      exact hlst
  · exact he

end
end Go.Hu

namespace Go.Hu

def Ex.code : Ex → Option Code
  | .normal => none
  | .exit id => some (.exit id)
  | .ret => some .ret
def LState.real : LState → LoopState
  | .ready => .ready
  | .busy => .busy
  | .done => .done
  | .exhausted => .exhausted

/-- The block that a slot leads to. -/
def blk (tmps : Array Value) (t : Nat) : Option Nat := match tmps.getD t undef with
  | .pointer (some ⟨b, 0, none⟩) => some b
  | _ => none

/-- A frame's slots: promoted variables by their blocks, the others by their values. -/
def SlotOk (X : Ctx) (h : Hint) (g : Gh) (H : Heap) (A : Nat → Nat → Prop) (e : Env) (tmps : Array Value) (t : Nat) : Prop :=
  if h.prom.contains t then e t = .undef ∨ ∃ b c el, blk tmps t = some b ∧ H[b]? = some (.cells c el (0, 0)) ∧ EncL X.nm g H (e t).cells c ∧ (∃ sh, (e t).fits sh = true) ∧ A t b
  else Enc X.nm g H (e t) (tmps.getD t undef)

structure LoopOk (X : Ctx) (g : Gh) (H : Heap) (l : Nat) (L : LoopRec) (r : Loop) : Prop where
  state : r.state = L.state.real
  jump : r.pending = L.jump.bind Ex.code
  nn : L.jump ≠ some .normal
  ps : r.params.toList = L.ps
  code : ∃ h fn, X.P.funcs[r.fn]? = some fn ∧ r.tmps.size = fn.ntmps ∧ compileS X h r.assign = some L.assign ∧ compileS X h r.body = some L.body ∧ L.own = laidIn L.assign ++ laidIn L.body ∧
    (wroteIn L.assign ++ wroteIn L.body).all L.own.contains = true ∧ (∀ q ∈ L.ps, h.prom.contains q = false) ∧
    (∀ i ∈ L.assign.inss ++ L.body.inss, ∀ d ∈ i.op.wr, d < fn.ntmps) ∧ (∀ q ∈ L.ps, q < fn.ntmps) ∧ (L.assign.noRf = true ∧ L.body.noRf = true) ∧
    ∀ t, SlotOk X h g H (fun _ b => g.κ l b) L.env r.tmps t

def PObj.live : PObj → Bool
  | .dead | .tok _ => false
  | _ => true

/-- An object and its block. -/
def EncObj (X : Ctx) (g : Gh) (H : Heap) (l b : Nat) : PObj → Prop
  | .cells cs => (∃ c el, H[b]? = some (.cells c el (0, 0)) ∧ EncL X.nm g H cs c) ∧ (∀ x ∈ cs, x.scal = true)
  | .map es => ∃ ents : Array MapEntry, H[b]? = some (.map ents es.length) ∧ ents.size = es.length ∧
      ∀ (i : Nat) x, es[i]? = some x → ∃ en, ents[i]? = some en ∧ en.born = i ∧ Enc X.nm g H x.1 en.key ∧ Enc X.nm g H x.2 en.val ∧ (eqV x.1 x.1).isSome = true
  | .iter m n seen => ∃ m', H[b]? = some (.mapIter m' n seen.toArray n) ∧ match m, m' with
      | none, none => True
      | some r, some br => g.β r = some br
      | _, _ => False
  | .loop L => ∃ r, H[b]? = some (.loop r) ∧ LoopOk X g H l L r
  | .tok _ => False
  | .dead => True

structure Rel (X : Ctx) (g : Gh) (H : Heap) (s : St) (kept mine : Nat → Prop) : Prop where
  obj : ∀ l o, s l = some o → o.live = true → ∃ b, g.β l = some b ∧ EncObj X g H l b o ∧ ¬ kept b ∧ ¬ mine b
  inj : ∀ l l' o o' b, s l = some o → s l' = some o' → o.live = true → o'.live = true → g.β l = some b → g.β l' = some b → l = l'
  zc : ∀ b j, g.Z b j → ∃ v, cellH H b j = some v
  zmine : ∀ b j, g.Z b j → ¬ mine b
  zobj : ∀ b j l o, g.Z b j → s l = some o → o.live = true → g.β l ≠ some b
  tok : ∀ t n, s t = some (.tok n) → ∃ b base sz cap, g.τ t = some (b, base, sz, cap) ∧ (∃ c el, H[b]? = some (.cells c el (0, 0)) ∧ base + cap * sz ≤ c.size) ∧ n ≤ cap ∧
    (∀ j, base + n * sz ≤ j → ¬ g.Z b j) ∧ ¬ kept b ∧ ¬ mine b ∧ ∀ l o, s l = some o → o.live = true → g.β l ≠ some b
  tokinj : ∀ t t' n n' x x', s t = some (.tok n) → s t' = some (.tok n') → g.τ t = some x → g.τ t' = some x' → x.1 = x'.1 → t = t'
  fin : ∃ N, ∀ l, N ≤ l → s l = none ∧ g.β l = none ∧ g.τ l = none
  bmine : ∀ b, mine b → b < H.size ∧ ¬ kept b
  bkept : ∀ b, kept b → b < H.size
  bobj : ∀ l b, g.β l = some b → b < H.size
  btok : ∀ t x, g.τ t = some x → x.1 < H.size
  loops : ∀ l L b, s l = some (.loop L) → g.κ l b → kept b
  glob : ∀ n cs, X.gl n = some cs → ∀ j x, cs[j]? = some x → ∃ v, cellH H n j = some v ∧ g.Z n j ∧ Enc X.nm g H x v

/-- A block of which nothing is known. -/
structure Free (g : Gh) (s : St) (kept mine : Nat → Prop) (b : Nat) : Prop where
  kept : ¬ kept b
  mine : ¬ mine b
  z : ∀ j, ¬ g.Z b j
  obj : ∀ l o, s l = some o → o.live = true → g.β l ≠ some b
  tok : ∀ t n x, s t = some (.tok n) → g.τ t = some x → x.1 ≠ b

section
variable {X : Ctx} {g g' : Gh} {H H' : Heap} {s : St} {kept mine : Nat → Prop}

theorem cellH_congr {H H' : Heap} {b j : Nat} (h : H'[b]? = H[b]?) : cellH H' b j = cellH H b j := by unfold cellH; rw [h]
theorem stays_of {P : Nat → Prop} (hz : ∀ b j, g.Z b j → P b) (h : ∀ b, P b → H'[b]? = H[b]?) : Stays g H H' := fun b j hj => cellH_congr (h b (hz b j hj))

theorem SlotOk.mono {h : Hint} (hg : g.Le g') (hs : Stays g H H') {A A' : Nat → Nat → Prop} {e : Env} {tmps : Array Value} {t : Nat} (hA : ∀ b, A t b → A' t b ∧ H'[b]? = H[b]?)
    (hk : SlotOk X h g H A e tmps t) : SlotOk X h g' H' A' e tmps t := by
  unfold SlotOk at hk ⊢
  split
  · rename_i hp
    rw [if_pos hp] at hk
    rcases hk with hk | ⟨b, c, el, h1, h2, h3, h4, h5⟩
    · exact .inl hk
    · exact .inr ⟨b, c, el, h1, (hA b h5).2.trans h2, h3.mono hg hs, h4, (hA b h5).1⟩
  · rename_i hp
    rw [if_neg hp] at hk
    exact hk.mono hg hs

theorem LoopOk.mono (hg : g.Le g') (hs : Stays g H H') {l : Nat} {L : LoopRec} {r : Loop} (hκ : ∀ b, g.κ l b → g'.κ l b ∧ H'[b]? = H[b]?) (hk : LoopOk X g H l L r) : LoopOk X g' H' l L r := by
  obtain ⟨h1, h2, h3, h4, h, fn, h5, h6, h7, h8, h9, h10, h11, h12, h13, h15, h14⟩ := hk
  exact ⟨h1, h2, h3, h4, h, fn, h5, h6, h7, h8, h9, h10, h11, h12, h13, h15, fun t => (h14 t).mono hg hs (A' := fun _ b => g'.κ l b) fun b hb => hκ b hb⟩

theorem EncObj.mono (hg : g.Le g') (hs : Stays g H H') {l b : Nat} {o : PObj} (hb : H'[b]? = H[b]?) (hκ : (∃ L, o = .loop L) → ∀ b, g.κ l b → g'.κ l b ∧ H'[b]? = H[b]?) (hk : EncObj X g H l b o) : EncObj X g' H' l b o := by
  cases o with
  | cells cs =>
    obtain ⟨⟨c, el, h1, h2⟩, h3⟩ := hk
    exact ⟨⟨c, el, hb.trans h1, h2.mono hg hs⟩, h3⟩
  | map es =>
    obtain ⟨ents, h1, h2, h3⟩ := hk
    refine ⟨ents, hb.trans h1, h2, fun i x hx => ?_⟩
    obtain ⟨en, e1, e2, e3, e4, e5⟩ := h3 i x hx
    exact ⟨en, e1, e2, e3.mono hg hs, e4.mono hg hs, e5⟩
  | iter m n seen =>
    obtain ⟨m', h1, h2⟩ := hk
    refine ⟨m', hb.trans h1, ?_⟩
    cases m <;> cases m' <;> simp only at h2 ⊢
    exact hg.β _ _ h2
  | loop L =>
    obtain ⟨r, h1, h2⟩ := hk
    exact ⟨r, hb.trans h1, h2.mono hg hs (hκ ⟨L, rfl⟩)⟩
  | tok n => exact hk
  | dead => trivial

/-- A change at a block that no object and no right lies in, and where what stays stays: all stands. -/
theorem Rel.touch' (hr : Rel X g H s kept mine) {b0 : Nat} (hs : H.size ≤ H'.size) (hsame : ∀ b, b < H.size → b ≠ b0 → H'[b]? = H[b]?) (hst : Stays g H H')
    (h0 : b0 < H.size → ¬ kept b0 ∧ (∀ l o, s l = some o → o.live = true → g.β l ≠ some b0) ∧ ∀ t n x, s t = some (.tok n) → g.τ t = some x → x.1 ≠ b0) :
    Rel X g H' s kept mine := by
  refine { obj := ?_, inj := hr.inj, zc := ?_, zmine := hr.zmine, zobj := hr.zobj, tok := ?_, tokinj := hr.tokinj, fin := hr.fin, bmine := ?_, bkept := ?_, bobj := ?_, btok := ?_, loops := hr.loops, glob := ?_ }
  · intro l o hl ho
    obtain ⟨b, h1, h2, h3, h4⟩ := hr.obj l o hl ho
    have hb := hr.bobj l b h1
    have hne : b ≠ b0 := fun e => (h0 (e ▸ hb)).2.1 l o hl ho (e ▸ h1)
    refine ⟨b, h1, h2.mono (.refl g) hst (hsame b hb hne) ?_, h3, h4⟩
    rintro ⟨L, rfl⟩ b' hb'
    have hk := hr.loops l L b' hl hb'
    have hlt := hr.bkept b' hk
    exact ⟨hb', hsame b' hlt fun e => (h0 (e ▸ hlt)).1 (e ▸ hk)⟩
  · intro b j hz
    obtain ⟨v, hv⟩ := hr.zc b j hz
    exact ⟨v, (hst b j hz).trans hv⟩
  · intro t n ht
    obtain ⟨b, base, sz, cap, h1, ⟨c, el, h2, h3⟩, h4⟩ := hr.tok t n ht
    have hb := hr.btok t _ h1
    have hne : b ≠ b0 := fun e => (h0 (e ▸ hb)).2.2 t n _ ht h1 e
    exact ⟨b, base, sz, cap, h1, ⟨c, el, (hsame b hb hne).trans h2, h3⟩, h4⟩
  · intro b hb; exact ⟨Nat.lt_of_lt_of_le (hr.bmine b hb).1 hs, (hr.bmine b hb).2⟩
  · intro b hb; exact Nat.lt_of_lt_of_le (hr.bkept b hb) hs
  · intro l b hb; exact Nat.lt_of_lt_of_le (hr.bobj l b hb) hs
  · intro t x hb; exact Nat.lt_of_lt_of_le (hr.btok t x hb) hs
  · intro n cs hn j x hx
    obtain ⟨v, h1, h2, h3⟩ := hr.glob n cs hn j x hx
    exact ⟨v, (hst n j h2).trans h1, h2, h3.mono (.refl g) hst⟩

/-- A change at a block of which nothing is told, or that is one's own: all stands. -/
theorem Rel.touch (hr : Rel X g H s kept mine) {b0 : Nat} (hs : H.size ≤ H'.size) (hsame : ∀ b, b < H.size → b ≠ b0 → H'[b]? = H[b]?)
    (h0 : b0 < H.size → ¬ kept b0 ∧ (∀ j, ¬ g.Z b0 j) ∧ (∀ l o, s l = some o → o.live = true → g.β l ≠ some b0) ∧ ∀ t n x, s t = some (.tok n) → g.τ t = some x → x.1 ≠ b0) :
    Rel X g H' s kept mine := by
  have zlt : ∀ b j, g.Z b j → b < H.size ∧ b ≠ b0 := by
    intro b j hz
    obtain ⟨v, hv⟩ := hr.zc b j hz
    have hb : b < H.size := by
      unfold cellH at hv
      split at hv
      · rename_i h; exact (Array.getElem?_eq_some_iff.1 h).1
      · cases hv
    refine ⟨hb, fun e => ?_⟩
    subst e
    exact (h0 hb).2.1 j hz
  have hst : Stays g H H' := fun b j hz => cellH_congr (hsame b (zlt b j hz).1 (zlt b j hz).2)
  refine { obj := ?_, inj := hr.inj, zc := ?_, zmine := hr.zmine, zobj := hr.zobj, tok := ?_, tokinj := hr.tokinj, fin := hr.fin, bmine := ?_, bkept := ?_, bobj := ?_, btok := ?_, loops := hr.loops, glob := ?_ }
  · intro l o hl ho
    obtain ⟨b, h1, h2, h3, h4⟩ := hr.obj l o hl ho
    have hb := hr.bobj l b h1
    have hne : b ≠ b0 := fun e => (h0 (e ▸ hb)).2.2.1 l o hl ho (e ▸ h1)
    refine ⟨b, h1, h2.mono (.refl g) hst (hsame b hb hne) ?_, h3, h4⟩
    rintro ⟨L, rfl⟩ b' hb'
    have hk := hr.loops l L b' hl hb'
    have hlt := hr.bkept b' hk
    exact ⟨hb', hsame b' hlt fun e => (h0 (e ▸ hlt)).1 (e ▸ hk)⟩
  · intro b j hz
    obtain ⟨v, hv⟩ := hr.zc b j hz
    exact ⟨v, (hst b j hz).trans hv⟩
  · intro t n ht
    obtain ⟨b, base, sz, cap, h1, ⟨c, el, h2, h3⟩, h4⟩ := hr.tok t n ht
    have hb := hr.btok t _ h1
    have hne : b ≠ b0 := fun e => (h0 (e ▸ hb)).2.2.2 t n _ ht h1 e
    exact ⟨b, base, sz, cap, h1, ⟨c, el, (hsame b hb hne).trans h2, h3⟩, h4⟩
  · intro b hb; exact ⟨Nat.lt_of_lt_of_le (hr.bmine b hb).1 hs, (hr.bmine b hb).2⟩
  · intro b hb; exact Nat.lt_of_lt_of_le (hr.bkept b hb) hs
  · intro l b hb; exact Nat.lt_of_lt_of_le (hr.bobj l b hb) hs
  · intro t x hb; exact Nat.lt_of_lt_of_le (hr.btok t x hb) hs
  · intro n cs hn j x hx
    obtain ⟨v, h1, h2, h3⟩ := hr.glob n cs hn j x hx
    exact ⟨v, (hst n j h2).trans h1, h2, h3.mono (.refl g) hst⟩

theorem push_old (H : Heap) (o : Obj) {b : Nat} (h : b < H.size) : (H.push o)[b]? = H[b]? := by
  rw [Array.getElem?_push]; rw [if_neg (by omega)]
theorem push_new (H : Heap) (o : Obj) : (H.push o)[H.size]? = some o := by simp

/-- A new block. -/
theorem Rel.push (hr : Rel X g H s kept mine) (o : Obj) : Rel X g (H.push o) s kept mine ∧ Free g s kept mine H.size := by
  refine ⟨hr.touch (b0 := H.size) (by simp) (fun b hb _ => push_old H o hb) (fun h => absurd h (Nat.lt_irrefl _)), ?_, ?_, ?_, ?_, ?_⟩
  · exact fun h => Nat.lt_irrefl _ (hr.bkept _ h)
  · exact fun h => Nat.lt_irrefl _ (hr.bmine _ h).1
  · intro j hz
    obtain ⟨v, hv⟩ := hr.zc _ _ hz
    simp [cellH] at hv
  · exact fun l o _ _ hb => Nat.lt_irrefl _ (hr.bobj l _ hb)
  · exact fun t n x _ hx e => Nat.lt_irrefl _ (e ▸ hr.btok t x hx)
theorem stays_push (hr : Rel X g H s kept mine) (o : Obj) : Stays g H (H.push o) := by
  intro b j hz
  obtain ⟨v, hv⟩ := hr.zc b j hz
  have hb : b < H.size := by
    unfold cellH at hv
    split at hv
    · rename_i h; exact (Array.getElem?_eq_some_iff.1 h).1
    · cases hv
  exact cellH_congr (push_old H o hb)

theorem Rel.zlt (hr : Rel X g H s kept mine) {b j : Nat} (hz : g.Z b j) : b < H.size := by
  obtain ⟨v, hv⟩ := hr.zc b j hz
  unfold cellH at hv
  split at hv
  · rename_i h; exact (Array.getElem?_eq_some_iff.1 h).1
  · cases hv

/-- A free block becomes one's own. -/
theorem Rel.own (hr : Rel X g H s kept mine) {b0 : Nat} (hf : Free g s kept mine b0) (hlt : b0 < H.size) : Rel X g H s kept (fun b => mine b ∨ b = b0) := by
  refine { obj := ?_, inj := hr.inj, zc := hr.zc, zmine := ?_, zobj := hr.zobj, tok := ?_, tokinj := hr.tokinj, fin := hr.fin, bmine := ?_, bkept := hr.bkept, bobj := hr.bobj, btok := hr.btok, loops := hr.loops, glob := hr.glob }
  · intro l o hl ho
    obtain ⟨b, h1, h2, h3, h4⟩ := hr.obj l o hl ho
    exact ⟨b, h1, h2, h3, fun h => h.elim h4 fun e => hf.obj l o hl ho (e ▸ h1)⟩
  · exact fun b j hz h => h.elim (hr.zmine b j hz) fun e => hf.z j (e ▸ hz)
  · intro t n ht
    obtain ⟨b, base, sz, cap, h1, h2, h3, h4, h5, h6, h7⟩ := hr.tok t n ht
    exact ⟨b, base, sz, cap, h1, h2, h3, h4, h5, fun h => h.elim h6 fun e => hf.tok t n _ ht h1 e, h7⟩
  · rintro b (h | rfl)
    · exact hr.bmine b h
    · exact ⟨hlt, hf.kept⟩
/-- One's own becomes free. -/
theorem Rel.disown (hr : Rel X g H s kept mine) {mine' : Nat → Prop} (hm : ∀ b, mine' b → mine b) : Rel X g H s kept mine' := by
  refine { obj := ?_, inj := hr.inj, zc := hr.zc, zmine := ?_, zobj := hr.zobj, tok := ?_, tokinj := hr.tokinj, fin := hr.fin, bmine := ?_, bkept := hr.bkept, bobj := hr.bobj, btok := hr.btok, loops := hr.loops, glob := hr.glob }
  · intro l o hl ho
    obtain ⟨b, h1, h2, h3, h4⟩ := hr.obj l o hl ho
    exact ⟨b, h1, h2, h3, fun h => h4 (hm b h)⟩
  · exact fun b j hz h => hr.zmine b j hz (hm b h)
  · intro t n ht
    obtain ⟨b, base, sz, cap, h1, h2, h3, h4, h5, h6, h7⟩ := hr.tok t n ht
    exact ⟨b, base, sz, cap, h1, h2, h3, h4, h5, fun h => h6 (hm b h), h7⟩
  · exact fun b h => hr.bmine b (hm b h)
theorem Rel.freeOf (hr : Rel X g H s kept mine) {b0 : Nat} (hb : mine b0) : Free g s kept (fun b => mine b ∧ b ≠ b0) b0 := by
  refine ⟨(hr.bmine b0 hb).2, fun h => h.2 rfl, fun j hz => hr.zmine _ _ hz hb, ?_, ?_⟩
  · intro l o hl ho e
    obtain ⟨b, h1, _, _, h4⟩ := hr.obj l o hl ho
    obtain rfl := Option.some.inj (h1.symm.trans e)
    exact h4 hb
  · intro t n x ht hx e
    obtain ⟨b, base, sz, cap, h1, _, _, _, _, h6, _⟩ := hr.tok t n ht
    obtain rfl := Option.some.inj (h1.symm.trans hx)
    exact h6 ((show b = b0 from e) ▸ hb)

/-- A call: what is one's own is kept by the callee. -/
theorem Rel.enter (hr : Rel X g H s kept mine) : Rel X g H s (fun b => kept b ∨ mine b) (fun _ => False) := by
  refine { obj := ?_, inj := hr.inj, zc := hr.zc, zmine := fun _ _ _ h => h, zobj := hr.zobj, tok := ?_, tokinj := hr.tokinj, fin := hr.fin, bmine := fun _ h => h.elim, bkept := ?_, bobj := hr.bobj, btok := hr.btok, loops := fun l L b hl hk => .inl (hr.loops l L b hl hk), glob := hr.glob }
  · intro l o hl ho
    obtain ⟨b, h1, h2, h3, h4⟩ := hr.obj l o hl ho
    exact ⟨b, h1, h2, fun h => h.elim h3 h4, id⟩
  · intro t n ht
    obtain ⟨b, base, sz, cap, h1, h2, h3, h4, h5, h6, h7⟩ := hr.tok t n ht
    exact ⟨b, base, sz, cap, h1, h2, h3, h4, fun h => h.elim h5 h6, id, h7⟩
  · rintro b (h | h)
    · exact hr.bkept b h
    · exact (hr.bmine b h).1

/-- What a piece of a run keeps of what lay before it. -/
structure Evo (g : Gh) (H : Heap) (s : St) (kept : Nat → Prop) (g' : Gh) (H' : Heap) (s' : St) : Prop where
  le : g.Le g'
  stays : Stays g H H'
  keep : ∀ b, kept b → H'[b]? = H[b]?
  size : H.size ≤ H'.size
  znew : ∀ b j, g'.Z b j → g.Z b j ∨ ¬ kept b
  loops : ∀ l L', s' l = some (.loop L') → ∃ L, s l = some (.loop L) ∧ ∀ b, g'.κ l b → g.κ l b
  κ : ∀ l o, s l = some o → ∀ b, g.κ l b → g'.κ l b
  used : ∀ l, s l ≠ none → s' l ≠ none

theorem Evo.refl : Evo g H s kept g H s := ⟨.refl g, .refl g H, fun _ _ => rfl, Nat.le_refl _, fun _ _ h => .inl h, fun _ L h => ⟨L, h, fun _ h => h⟩, fun _ _ _ _ h => h, fun _ h => h⟩
theorem Evo.trans {g1 g2 : Gh} {H1 H2 : Heap} {s1 s2 : St} (h : Evo g H s kept g1 H1 s1) (h' : Evo g1 H1 s1 kept g2 H2 s2) : Evo g H s kept g2 H2 s2 := by
  refine ⟨h.le.trans h'.le, fun b j hz => (h'.stays b j (h.le.Z b j hz)).trans (h.stays b j hz), fun b hb => (h'.keep b hb).trans (h.keep b hb), Nat.le_trans h.size h'.size, ?_, ?_, ?_, fun l hl => h'.used l (h.used l hl)⟩
  · intro b j hz
    rcases h'.znew b j hz with hz | hz
    · exact h.znew b j hz
    · exact .inr hz
  · intro l L' hl
    obtain ⟨L, h1, h2⟩ := h'.loops l L' hl
    obtain ⟨L0, h3, h4⟩ := h.loops l L h1
    exact ⟨L0, h3, fun b hb => h4 b (h2 b hb)⟩
  · intro l o hl b hb
    have hk := h.κ l o hl b hb
    cases h1 : s1 l with
    | none => exact absurd h1 (h.used l (by rw [hl]; simp))
    | some o1 => exact h'.κ l o1 h1 b hk
theorem Evo.weaken {kept' : Nat → Prop} {g' : Gh} {H' : Heap} {s' : St} (hk : ∀ b, kept' b → kept b) (h : Evo g H s kept g' H' s') : Evo g H s kept' g' H' s' :=
  ⟨h.le, h.stays, fun b hb => h.keep b (hk b hb), h.size, fun b j hz => (h.znew b j hz).imp id fun hn hb => hn (hk b hb), h.loops, h.κ, h.used⟩

/-- The way back out of a call. -/
theorem Rel.leave {mc : Nat → Prop} {s' : St} (hr : Rel X g H s kept mine) (hr' : Rel X g' H' s' (fun b => kept b ∨ mine b) mc) (he : Evo g H s (fun b => kept b ∨ mine b) g' H' s') : Rel X g' H' s' kept mine := by
  refine { obj := ?_, inj := hr'.inj, zc := hr'.zc, zmine := ?_, zobj := hr'.zobj, tok := ?_, tokinj := hr'.tokinj, fin := hr'.fin, bmine := ?_, bkept := fun b hb => Nat.lt_of_lt_of_le (hr.bkept b hb) he.size, bobj := hr'.bobj, btok := hr'.btok, loops := ?_, glob := hr'.glob }
  · intro l o hl ho
    obtain ⟨b, h1, h2, h3, h4⟩ := hr'.obj l o hl ho
    exact ⟨b, h1, h2, fun h => h3 (.inl h), fun h => h3 (.inr h)⟩
  · intro b j hz hm
    rcases he.znew b j hz with h | h
    · exact hr.zmine b j h hm
    · exact h (.inr hm)
  · intro t n ht
    obtain ⟨b, base, sz, cap, h1, h2, h3, h4, h5, h6, h7⟩ := hr'.tok t n ht
    exact ⟨b, base, sz, cap, h1, h2, h3, h4, fun h => h5 (.inl h), fun h => h5 (.inr h), h7⟩
  · exact fun b hb => ⟨Nat.lt_of_lt_of_le (hr.bmine b hb).1 he.size, (hr.bmine b hb).2⟩
  · intro l L b hl hb
    obtain ⟨L0, h1, h2⟩ := he.loops l L hl
    exact hr.loops l L0 b h1 (h2 b hb)

theorem set_same {s : St} {l : Nat} {o : PObj} : (s.set l o) l = some o := by simp [St.set]
theorem set_other {s : St} {l l' : Nat} {o : PObj} (h : l' ≠ l) : (s.set l o) l' = s l' := by simp [St.set, h]

/-- A live object turns into another one, in its block. -/
theorem Rel.setObj (hr : Rel X g H s kept mine) {l b0 : Nat} {o o' : PObj} (hl : s l = some o) (hlive : o.live = true) (hb : g.β l = some b0) (hs : H'.size = H.size) (hsame : ∀ b, b ≠ b0 → H'[b]? = H[b]?)
    (hlive' : o'.live = true) (hloop : ∀ L', o' = .loop L' → ∃ L, o = .loop L) (ho' : (∀ b, kept b → H'[b]? = H[b]?) → Stays g H H' → EncObj X g H' l b0 o') :
    Rel X g H' (s.set l o') kept mine ∧ Evo g H s kept g H' (s.set l o') := by
  obtain ⟨b1, hb1, hold, hk1, hm1⟩ := hr.obj l o hl hlive
  obtain rfl := Option.some.inj (hb.symm.trans hb1)
  have zne : ∀ b j, g.Z b j → b ≠ b0 := fun b j hz e => hr.zobj b j l o hz hl hlive (e ▸ hb)
  have hst : Stays g H H' := fun b j hz => cellH_congr (hsame b (zne b j hz))
  have hkeep : ∀ b, kept b → H'[b]? = H[b]? := fun b hb => hsame b fun e => hk1 (e ▸ hb)
  have live_iff : ∀ {l1 o1}, (s.set l o') l1 = some o1 → o1.live = true → ∃ o2, s l1 = some o2 ∧ o2.live = true := by
    intro l1 o1 h1 h2
    by_cases e : l1 = l
    · subst e; exact ⟨o, hl, hlive⟩
    · rw [set_other e] at h1; exact ⟨o1, h1, h2⟩
  refine ⟨{ obj := ?_, inj := ?_, zc := ?_, zmine := hr.zmine, zobj := ?_, tok := ?_, tokinj := ?_, fin := ?_, bmine := ?_, bkept := ?_, bobj := ?_, btok := ?_, loops := ?_, glob := ?_ }, ⟨.refl g, hst, hkeep, by omega, fun _ _ h => .inl h, ?_, fun _ _ _ _ h => h, ?_⟩⟩
  · intro l1 o1 h1 h2
    by_cases e : l1 = l
    · subst e
      rw [set_same] at h1
      obtain rfl := Option.some.inj h1
      exact ⟨b0, hb, ho' hkeep hst, hk1, hm1⟩
    · rw [set_other e] at h1
      obtain ⟨b, h3, h4, h5, h6⟩ := hr.obj l1 o1 h1 h2
      have hne : b ≠ b0 := fun eb => e (hr.inj l1 l o1 o b0 h1 hl h2 hlive (eb ▸ h3) hb)
      refine ⟨b, h3, h4.mono (.refl g) hst (hsame b hne) ?_, h5, h6⟩
      rintro ⟨L, rfl⟩ b' hb'
      exact ⟨hb', hkeep b' (hr.loops l1 L b' h1 hb')⟩
  · intro l1 l2 o1 o2 b h1 h2 h3 h4 h5 h6
    obtain ⟨p1, q1, r1⟩ := live_iff h1 h3
    obtain ⟨p2, q2, r2⟩ := live_iff h2 h4
    exact hr.inj l1 l2 p1 p2 b q1 q2 r1 r2 h5 h6
  · intro b j hz
    obtain ⟨v, hv⟩ := hr.zc b j hz
    exact ⟨v, (hst b j hz).trans hv⟩
  · intro b j l1 o1 hz h1 h2
    obtain ⟨p1, q1, r1⟩ := live_iff h1 h2
    exact hr.zobj b j l1 p1 hz q1 r1
  · intro t n ht
    have hne : t ≠ l := by
      rintro rfl
      rw [set_same] at ht
      obtain rfl := Option.some.inj ht
      simp [PObj.live] at hlive'
    rw [set_other hne] at ht
    obtain ⟨b, base, sz, cap, h1, ⟨c, el, h2, h3⟩, h4, h5, h6, h7, h8⟩ := hr.tok t n ht
    have hbne : b ≠ b0 := fun e => h8 l o hl hlive (e ▸ hb)
    exact ⟨b, base, sz, cap, h1, ⟨c, el, (hsame b hbne).trans h2, h3⟩, h4, h5, h6, h7, fun l1 o1 q1 q2 => by
      obtain ⟨p1, r1, r2⟩ := live_iff q1 q2
      exact h8 l1 p1 r1 r2⟩
  · intro t t' n n' x x' h1 h2 h3 h4 h5
    have hn : ∀ {t n}, (s.set l o') t = some (.tok n) → s t = some (.tok n) := by
      intro t n h
      by_cases e : t = l
      · subst e
        rw [set_same] at h
        obtain rfl := Option.some.inj h
        simp [PObj.live] at hlive'
      · rwa [set_other e] at h
    exact hr.tokinj t t' n n' x x' (hn h1) (hn h2) h3 h4 h5
  · obtain ⟨N, hN⟩ := hr.fin
    refine ⟨N, fun l1 h1 => ?_⟩
    have hne : l1 ≠ l := fun e => by rw [(hN l (e ▸ h1)).1] at hl; cases hl
    rw [set_other hne]
    exact hN l1 h1
  · intro b hb'; rw [hs]; exact hr.bmine b hb'
  · intro b hb'; rw [hs]; exact hr.bkept b hb'
  · intro l1 b hb'; rw [hs]; exact hr.bobj l1 b hb'
  · intro t x hx; rw [hs]; exact hr.btok t x hx
  · intro l1 L b h1 h2
    by_cases e : l1 = l
    · subst e
      rw [set_same] at h1
      obtain ⟨L0, rfl⟩ := hloop L (Option.some.inj h1)
      exact hr.loops l1 L0 b hl h2
    · rw [set_other e] at h1
      exact hr.loops l1 L b h1 h2
  · intro n cs hn j x hx
    obtain ⟨v, h1, h2, h3⟩ := hr.glob n cs hn j x hx
    exact ⟨v, (hst n j h2).trans h1, h2, h3.mono (.refl g) hst⟩
  · intro l1 L' h1
    by_cases e : l1 = l
    · subst e
      rw [set_same] at h1
      obtain ⟨L0, rfl⟩ := hloop L' (Option.some.inj h1)
      exact ⟨L0, hl, fun _ h => h⟩
    · rw [set_other e] at h1
      exact ⟨L', h1, fun _ h => h⟩
  · intro l1 h1
    by_cases e : l1 = l
    · subst e; rw [set_same]; simp
    · rwa [set_other e]

/-- The ghost with a new object's block; its loop's blocks. -/
def Gh.withObj (g : Gh) (l b : Nat) (K : Nat → Prop) : Gh := { g with β := fun l' => if l' = l then some b else g.β l', κ := fun l' b' => if l' = l then K b' else g.κ l' b' }
theorem Gh.le_withObj {g : Gh} {l b : Nat} {K : Nat → Prop} (hn : g.β l = none) : g.Le (g.withObj l b K) := by
  refine ⟨fun l' b' h => ?_, fun _ _ h => h, fun _ _ h => h⟩
  simp only [Gh.withObj]
  split
  · rename_i e; subst e; rw [hn] at h; cases h
  · exact h

/-- A free block becomes a new object. -/
theorem Rel.newObj (hr : Rel X g H s kept mine) {l b0 : Nat} {o : PObj} {K : Nat → Prop} (hl : s l = none) (hβ : g.β l = none) (hτ : g.τ l = none) (hf : Free g s kept mine b0) (hlt : b0 < H.size) (hlive : o.live = true)
    (hK : ∀ b, K b → kept b) (ho : EncObj X (g.withObj l b0 K) H l b0 o) (hnl : ∀ L, o ≠ .loop L) :
    Rel X (g.withObj l b0 K) H (s.set l o) kept mine ∧ Evo g H s kept (g.withObj l b0 K) H (s.set l o) := by
  have hle := Gh.le_withObj (g := g) (l := l) (b := b0) (K := K) hβ
  have βs : ∀ l1 b, l1 ≠ l → (g.withObj l b0 K).β l1 = some b → g.β l1 = some b := fun l1 b e h => by simpa [Gh.withObj, e] using h
  have βl : (g.withObj l b0 K).β l = some b0 := by simp [Gh.withObj]
  refine ⟨{ obj := ?_, inj := ?_, zc := hr.zc, zmine := hr.zmine, zobj := ?_, tok := ?_, tokinj := ?_, fin := ?_, bmine := hr.bmine, bkept := hr.bkept, bobj := ?_, btok := hr.btok, loops := ?_, glob := ?_ }, ⟨hle, .refl g H, fun _ _ => rfl, Nat.le_refl _, fun _ _ h => .inl h, ?_, ?_, ?_⟩⟩
  · intro l1 o1 h1 h2
    by_cases e : l1 = l
    · subst e
      rw [set_same] at h1
      obtain rfl := Option.some.inj h1
      exact ⟨b0, βl, ho, hf.kept, hf.mine⟩
    · rw [set_other e] at h1
      obtain ⟨b, h3, h4, h5, h6⟩ := hr.obj l1 o1 h1 h2
      refine ⟨b, hle.β _ _ h3, h4.mono hle (.refl g H) rfl ?_, h5, h6⟩
      rintro ⟨L, rfl⟩ b' hb'
      exact ⟨by simpa [Gh.withObj, e] using hb', rfl⟩
  · intro l1 l2 o1 o2 b h1 h2 h3 h4 h5 h6
    by_cases e1 : l1 = l
    · by_cases e2 : l2 = l
      · rw [e1, e2]
      · rw [set_other e2] at h2
        have := βs l2 b e2 h6
        subst e1
        rw [βl] at h5
        obtain rfl := Option.some.inj h5
        exact absurd this (hf.obj l2 o2 h2 h4)
    · rw [set_other e1] at h1
      by_cases e2 : l2 = l
      · have := βs l1 b e1 h5
        subst e2
        rw [βl] at h6
        obtain rfl := Option.some.inj h6
        exact absurd this (hf.obj l1 o1 h1 h3)
      · rw [set_other e2] at h2
        exact hr.inj l1 l2 o1 o2 b h1 h2 h3 h4 (βs l1 b e1 h5) (βs l2 b e2 h6)
  · intro b j l1 o1 hz h1 h2 h3
    by_cases e : l1 = l
    · subst e
      rw [βl] at h3
      obtain rfl := Option.some.inj h3
      exact hf.z j hz
    · rw [set_other e] at h1
      exact hr.zobj b j l1 o1 hz h1 h2 (βs l1 b e h3)
  · intro t n ht
    have hne : t ≠ l := by
      rintro rfl
      rw [set_same] at ht
      obtain rfl := Option.some.inj ht
      simp [PObj.live] at hlive
    rw [set_other hne] at ht
    obtain ⟨b, base, sz, cap, h1, h2, h4, h5, h6, h7, h8⟩ := hr.tok t n ht
    refine ⟨b, base, sz, cap, h1, h2, h4, h5, h6, h7, fun l1 o1 q1 q2 q3 => ?_⟩
    by_cases e : l1 = l
    · subst e
      rw [βl] at q3
      obtain rfl := Option.some.inj q3
      exact hf.tok t n _ ht h1 rfl
    · rw [set_other e] at q1
      exact h8 l1 o1 q1 q2 (βs l1 b e q3)
  · intro t t' n n' x x' h1 h2 h3 h4 h5
    have hn : ∀ {t n}, (s.set l o) t = some (.tok n) → s t = some (.tok n) := by
      intro t n h
      by_cases e : t = l
      · subst e
        rw [set_same] at h
        obtain rfl := Option.some.inj h
        simp [PObj.live] at hlive
      · rwa [set_other e] at h
    exact hr.tokinj t t' n n' x x' (hn h1) (hn h2) h3 h4 h5
  · obtain ⟨N, hN⟩ := hr.fin
    refine ⟨max N (l + 1), fun l1 h1 => ?_⟩
    have hne : l1 ≠ l := by omega
    rw [set_other hne]
    obtain ⟨q1, q2, q3⟩ := hN l1 (by omega)
    exact ⟨q1, by simp [Gh.withObj, hne, q2], q3⟩
  · intro l1 b h1
    by_cases e : l1 = l
    · subst e
      rw [βl] at h1
      obtain rfl := Option.some.inj h1
      exact hlt
    · exact hr.bobj l1 b (βs l1 b e h1)
  · intro l1 L b h1 h2
    by_cases e : l1 = l
    · subst e; exact hK b (by simpa [Gh.withObj] using h2)
    · rw [set_other e] at h1
      exact hr.loops l1 L b h1 (by simpa [Gh.withObj, e] using h2)
  · intro n cs hn j x hx
    obtain ⟨v, h1, h2, h3⟩ := hr.glob n cs hn j x hx
    exact ⟨v, h1, h2, h3.mono hle (.refl g H)⟩
  · intro l1 L' h1
    by_cases e : l1 = l
    · subst e
      rw [set_same] at h1
      exact absurd (Option.some.inj h1) (hnl L')
    · rw [set_other e] at h1
      exact ⟨L', h1, fun b hb => by simpa [Gh.withObj, e] using hb⟩
  · intro l1 o1 h1 b hb
    have e : l1 ≠ l := fun e => by rw [e, hl] at h1; cases h1
    simpa [Gh.withObj, e] using hb
  · intro l1 h1
    by_cases e : l1 = l
    · subst e; rw [set_same]; simp
    · rwa [set_other e]

/-- The same for a loop's record. -/
theorem Rel.newLoop (hr : Rel X g H s kept mine) {l b0 : Nat} {L : LoopRec} {K : Nat → Prop} (hl : s l = none) (hβ : g.β l = none) (hf : Free g s kept mine b0) (hlt : b0 < H.size)
    (hK : ∀ b, K b → kept b) (ho : EncObj X (g.withObj l b0 K) H l b0 (.loop L)) : Rel X (g.withObj l b0 K) H (s.set l (.loop L)) kept mine := by
  have hle := Gh.le_withObj (g := g) (l := l) (b := b0) (K := K) hβ
  have βs : ∀ l1 b, l1 ≠ l → (g.withObj l b0 K).β l1 = some b → g.β l1 = some b := fun l1 b e h => by simpa [Gh.withObj, e] using h
  have βl : (g.withObj l b0 K).β l = some b0 := by simp [Gh.withObj]
  have hlive : (PObj.loop L).live = true := rfl
  refine { obj := ?_, inj := ?_, zc := hr.zc, zmine := hr.zmine, zobj := ?_, tok := ?_, tokinj := ?_, fin := ?_, bmine := hr.bmine, bkept := hr.bkept, bobj := ?_, btok := hr.btok, loops := ?_, glob := ?_ }
  · intro l1 o1 h1 h2
    by_cases e : l1 = l
    · subst e
      rw [set_same] at h1
      obtain rfl := Option.some.inj h1
      exact ⟨b0, βl, ho, hf.kept, hf.mine⟩
    · rw [set_other e] at h1
      obtain ⟨b, h3, h4, h5, h6⟩ := hr.obj l1 o1 h1 h2
      refine ⟨b, hle.β _ _ h3, h4.mono hle (.refl g H) rfl ?_, h5, h6⟩
      rintro ⟨L, rfl⟩ b' hb'
      exact ⟨by simpa [Gh.withObj, e] using hb', rfl⟩
  · intro l1 l2 o1 o2 b h1 h2 h3 h4 h5 h6
    by_cases e1 : l1 = l
    · by_cases e2 : l2 = l
      · rw [e1, e2]
      · rw [set_other e2] at h2
        have := βs l2 b e2 h6
        subst e1
        rw [βl] at h5
        obtain rfl := Option.some.inj h5
        exact absurd this (hf.obj l2 o2 h2 h4)
    · rw [set_other e1] at h1
      by_cases e2 : l2 = l
      · have := βs l1 b e1 h5
        subst e2
        rw [βl] at h6
        obtain rfl := Option.some.inj h6
        exact absurd this (hf.obj l1 o1 h1 h3)
      · rw [set_other e2] at h2
        exact hr.inj l1 l2 o1 o2 b h1 h2 h3 h4 (βs l1 b e1 h5) (βs l2 b e2 h6)
  · intro b j l1 o1 hz h1 h2 h3
    by_cases e : l1 = l
    · subst e
      rw [βl] at h3
      obtain rfl := Option.some.inj h3
      exact hf.z j hz
    · rw [set_other e] at h1
      exact hr.zobj b j l1 o1 hz h1 h2 (βs l1 b e h3)
  · intro t n ht
    have hne : t ≠ l := by
      rintro rfl
      rw [set_same] at ht
      cases ht
    rw [set_other hne] at ht
    obtain ⟨b, base, sz, cap, h1, h2, h4, h5, h6, h7, h8⟩ := hr.tok t n ht
    refine ⟨b, base, sz, cap, h1, h2, h4, h5, h6, h7, fun l1 o1 q1 q2 q3 => ?_⟩
    by_cases e : l1 = l
    · subst e
      rw [βl] at q3
      obtain rfl := Option.some.inj q3
      exact hf.tok t n _ ht h1 rfl
    · rw [set_other e] at q1
      exact h8 l1 o1 q1 q2 (βs l1 b e q3)
  · intro t t' n n' x x' h1 h2 h3 h4 h5
    have hn : ∀ {t n}, (s.set l (.loop L)) t = some (.tok n) → s t = some (.tok n) := by
      intro t n h
      by_cases e : t = l
      · subst e
        rw [set_same] at h
        cases h
      · rwa [set_other e] at h
    exact hr.tokinj t t' n n' x x' (hn h1) (hn h2) h3 h4 h5
  · obtain ⟨N, hN⟩ := hr.fin
    refine ⟨max N (l + 1), fun l1 h1 => ?_⟩
    have hne : l1 ≠ l := by omega
    rw [set_other hne]
    obtain ⟨q1, q2, q3⟩ := hN l1 (by omega)
    exact ⟨q1, by simp [Gh.withObj, hne, q2], q3⟩
  · intro l1 b h1
    by_cases e : l1 = l
    · subst e
      rw [βl] at h1
      obtain rfl := Option.some.inj h1
      exact hlt
    · exact hr.bobj l1 b (βs l1 b e h1)
  · intro l1 L' b h1 h2
    by_cases e : l1 = l
    · subst e; exact hK b (by simpa [Gh.withObj] using h2)
    · rw [set_other e] at h1
      exact hr.loops l1 L' b h1 (by simpa [Gh.withObj, e] using h2)
  · intro n cs hn j x hx
    obtain ⟨v, h1, h2, h3⟩ := hr.glob n cs hn j x hx
    exact ⟨v, h1, h2, h3.mono hle (.refl g H)⟩

/-- An object (or a right) is given up. -/
theorem Rel.kill (hr : Rel X g H s kept mine) {l : Nat} {o : PObj} (hl : s l = some o) :
    Rel X g H (s.set l .dead) kept mine ∧ Evo g H s kept g H (s.set l .dead) := by
  have back : ∀ {l1 o1}, (s.set l .dead) l1 = some o1 → o1 ≠ .dead → l1 ≠ l ∧ s l1 = some o1 := by
    intro l1 o1 h1 h2
    by_cases e : l1 = l
    · subst e
      rw [set_same] at h1
      exact absurd (Option.some.inj h1).symm h2
    · exact ⟨e, by rwa [set_other e] at h1⟩
  have nd : ∀ {o1 : PObj}, o1.live = true → o1 ≠ .dead := by rintro _ h rfl; simp [PObj.live] at h
  refine ⟨{ obj := ?_, inj := ?_, zc := hr.zc, zmine := hr.zmine, zobj := ?_, tok := ?_, tokinj := ?_, fin := ?_, bmine := hr.bmine, bkept := hr.bkept, bobj := hr.bobj, btok := hr.btok, loops := ?_, glob := hr.glob }, ⟨.refl g, .refl g H, fun _ _ => rfl, Nat.le_refl _, fun _ _ h => .inl h, ?_, fun _ _ _ _ h => h, ?_⟩⟩
  · exact fun l1 o1 h1 h2 => hr.obj l1 o1 (back h1 (nd h2)).2 h2
  · exact fun l1 l2 o1 o2 b h1 h2 h3 h4 h5 h6 => hr.inj l1 l2 o1 o2 b (back h1 (nd h3)).2 (back h2 (nd h4)).2 h3 h4 h5 h6
  · exact fun b j l1 o1 hz h1 h2 => hr.zobj b j l1 o1 hz (back h1 (nd h2)).2 h2
  · intro t n ht
    obtain ⟨b, base, sz, cap, h1, h2, h4, h5, h6, h7, h8⟩ := hr.tok t n (back ht (by simp)).2
    exact ⟨b, base, sz, cap, h1, h2, h4, h5, h6, h7, fun l1 o1 q1 q2 => h8 l1 o1 (back q1 (nd q2)).2 q2⟩
  · exact fun t t' n n' x x' h1 h2 h3 h4 h5 => hr.tokinj t t' n n' x x' (back h1 (by simp)).2 (back h2 (by simp)).2 h3 h4 h5
  · obtain ⟨N, hN⟩ := hr.fin
    refine ⟨N, fun l1 h1 => ?_⟩
    have hne : l1 ≠ l := fun e => by rw [(hN l (e ▸ h1)).1] at hl; cases hl
    rw [set_other hne]
    exact hN l1 h1
  · exact fun l1 L b h1 h2 => hr.loops l1 L b (back h1 (by simp)).2 h2
  · exact fun l1 L' h1 => ⟨L', (back h1 (by simp)).2, fun _ h => h⟩
  · intro l1 h1
    by_cases e : l1 = l
    · subst e; rw [set_same]; simp
    · rwa [set_other e]
theorem Rel.free_of_kill (hr : Rel X g H s kept mine) {l b0 : Nat} {o : PObj} (hl : s l = some o) (hlive : o.live = true) (hb : g.β l = some b0) : Free g (s.set l .dead) kept mine b0 := by
  obtain ⟨b1, hb1, hold, hk1, hm1⟩ := hr.obj l o hl hlive
  obtain rfl := Option.some.inj (hb.symm.trans hb1)
  refine ⟨hk1, hm1, fun j hz => hr.zobj b0 j l o hz hl hlive hb, ?_, ?_⟩
  · intro l1 o1 h1 h2 h3
    by_cases e : l1 = l
    · subst e
      rw [set_same] at h1
      obtain rfl := Option.some.inj h1
      simp [PObj.live] at h2
    · rw [set_other e] at h1
      exact e (hr.inj l1 l o1 o b0 h1 hl h2 hlive h3 hb)
  · intro t n x h1 h2 h3
    by_cases e : t = l
    · subst e
      rw [set_same] at h1
      cases h1
    · rw [set_other e] at h1
      obtain ⟨b, base, sz, cap, q1, _, _, _, _, _, q8⟩ := hr.tok t n h1
      obtain rfl := Option.some.inj (q1.symm.trans h2)
      exact q8 l o hl hlive (by rw [show b = b0 from h3]; exact hb)

/-- The ghost with more cells that stay. -/
def Gh.withZ (g : Gh) (b0 lo hi : Nat) : Gh := { g with Z := fun b j => g.Z b j ∨ (b = b0 ∧ lo ≤ j ∧ j < hi) }
theorem Gh.le_withZ {g : Gh} {b0 lo hi : Nat} : g.Le (g.withZ b0 lo hi) := ⟨fun _ _ h => h, fun _ _ h => h, fun _ _ h => .inl h⟩

/-- A free block's cells stay from now on. -/
theorem Rel.newZ (hr : Rel X g H s kept mine) {b0 n : Nat} (hf : Free g s kept mine b0) (hc : ∀ j, j < n → ∃ v, cellH H b0 j = some v) :
    Rel X (g.withZ b0 0 n) H s kept mine ∧ Evo g H s kept (g.withZ b0 0 n) H s := by
  have hle := Gh.le_withZ (g := g) (b0 := b0) (lo := 0) (hi := n)
  refine ⟨{ obj := ?_, inj := hr.inj, zc := ?_, zmine := ?_, zobj := ?_, tok := ?_, tokinj := hr.tokinj, fin := hr.fin, bmine := hr.bmine, bkept := hr.bkept, bobj := hr.bobj, btok := hr.btok, loops := hr.loops, glob := ?_ }, ⟨hle, .refl g H, fun _ _ => rfl, Nat.le_refl _, ?_, fun _ L h => ⟨L, h, fun _ h => h⟩, fun _ _ _ _ h => h, fun _ h => h⟩⟩
  · intro l o hl ho
    obtain ⟨b, h1, h2, h3⟩ := hr.obj l o hl ho
    exact ⟨b, h1, h2.mono hle (.refl g H) rfl fun _ b' hb' => ⟨hb', rfl⟩, h3⟩
  · rintro b j (hz | ⟨rfl, _, hj⟩)
    · exact hr.zc b j hz
    · exact hc j hj
  · rintro b j (hz | ⟨rfl, _, hj⟩)
    · exact hr.zmine b j hz
    · exact hf.mine
  · rintro b j l o (hz | ⟨rfl, _, hj⟩) hl ho
    · exact hr.zobj b j l o hz hl ho
    · exact hf.obj l o hl ho
  · intro t m ht
    obtain ⟨b, base, sz, cap, h1, h2, h4, h5, h6⟩ := hr.tok t m ht
    refine ⟨b, base, sz, cap, h1, h2, h4, ?_, h6⟩
    rintro j hj (hz | ⟨e, _, _⟩)
    · exact h5 j hj hz
    · exact hf.tok t m _ ht h1 e
  · intro n' cs hn j x hx
    obtain ⟨v, h1, h2, h3⟩ := hr.glob n' cs hn j x hx
    exact ⟨v, h1, .inl h2, h3.mono hle (.refl g H)⟩
  · rintro b j (hz | ⟨rfl, _⟩)
    · exact .inl hz
    · exact .inr hf.kept

/-- A new right to extend a row: in a free block, or in that of an elder right, given up. -/
def Gh.withTok (g : Gh) (t b base sz cap lo hi : Nat) : Gh := { (g.withZ b lo hi) with τ := fun t' => if t' = t then some (b, base, sz, cap) else g.τ t' }
theorem Gh.le_withTok {g : Gh} {t b base sz cap lo hi : Nat} (hn : g.τ t = none) : g.Le (g.withTok t b base sz cap lo hi) := by
  refine ⟨fun _ _ h => h, fun t' x h => ?_, fun _ _ h => .inl h⟩
  simp only [Gh.withTok]
  split
  · rename_i e; subst e; rw [hn] at h; cases h
  · exact h

theorem Rel.newTok (hr : Rel X g H s kept mine) {t b0 base sz cap n lo : Nat} (ht : s t = none) (hτ : g.τ t = none) (hlo : lo ≤ base + n * sz)
    (hk : ¬ kept b0) (hm : ¬ mine b0) (hz : ∀ j, lo ≤ j → ¬ g.Z b0 j) (hobj : ∀ l o, s l = some o → o.live = true → g.β l ≠ some b0) (htok : ∀ t n x, s t = some (.tok n) → g.τ t = some x → x.1 ≠ b0)
    (hc : ∃ c el, H[b0]? = some (.cells c el (0, 0)) ∧ base + cap * sz ≤ c.size) (hn : n ≤ cap) :
    Rel X (g.withTok t b0 base sz cap lo (base + n * sz)) H (s.set t (.tok n)) kept mine ∧ Evo g H s kept (g.withTok t b0 base sz cap lo (base + n * sz)) H (s.set t (.tok n)) := by
  have hle := Gh.le_withTok (g := g) (t := t) (b := b0) (base := base) (sz := sz) (cap := cap) (lo := lo) (hi := base + n * sz) hτ
  obtain ⟨c, el, hb0, hcs⟩ := hc
  have hlt : b0 < H.size := (Array.getElem?_eq_some_iff.1 hb0).1
  have hcap : base + n * sz ≤ c.size := Nat.le_trans (Nat.add_le_add_left (Nat.mul_le_mul_right _ hn) _) hcs
  have back : ∀ {l1 o1}, (s.set t (.tok n)) l1 = some o1 → o1.live = true → l1 ≠ t ∧ s l1 = some o1 := by
    intro l1 o1 h1 h2
    by_cases e : l1 = t
    · subst e
      rw [set_same] at h1
      obtain rfl := Option.some.inj h1
      simp [PObj.live] at h2
    · exact ⟨e, by rwa [set_other e] at h1⟩
  have τt : (g.withTok t b0 base sz cap lo (base + n * sz)).τ t = some (b0, base, sz, cap) := by simp [Gh.withTok]
  have τo : ∀ t', t' ≠ t → (g.withTok t b0 base sz cap lo (base + n * sz)).τ t' = g.τ t' := fun t' e => by simp [Gh.withTok, e]
  refine ⟨{ obj := ?_, inj := ?_, zc := ?_, zmine := ?_, zobj := ?_, tok := ?_, tokinj := ?_, fin := ?_, bmine := hr.bmine, bkept := hr.bkept, bobj := hr.bobj, btok := ?_, loops := ?_, glob := ?_ }, ⟨hle, .refl g H, fun _ _ => rfl, Nat.le_refl _, ?_, ?_, fun _ _ _ _ h => h, ?_⟩⟩
  · intro l o hl ho
    obtain ⟨b, h1, h2, h3⟩ := hr.obj l o (back hl ho).2 ho
    exact ⟨b, h1, h2.mono hle (.refl g H) rfl fun _ b' hb' => ⟨hb', rfl⟩, h3⟩
  · exact fun l1 l2 o1 o2 b h1 h2 h3 h4 h5 h6 => hr.inj l1 l2 o1 o2 b (back h1 h3).2 (back h2 h4).2 h3 h4 h5 h6
  · rintro b j (hz' | ⟨rfl, h1, h2⟩)
    · exact hr.zc b j hz'
    · refine ⟨c[j]'(by omega), ?_⟩
      simp only [cellH, hb0]
      simp [show j < c.size by omega]
  · rintro b j (hz' | ⟨rfl, _⟩)
    · exact hr.zmine b j hz'
    · exact hm
  · rintro b j l o (hz' | ⟨rfl, _⟩) hl ho
    · exact hr.zobj b j l o hz' (back hl ho).2 ho
    · exact hobj l o (back hl ho).2 ho
  · intro t' m ht'
    by_cases e : t' = t
    · subst e
      rw [set_same] at ht'
      cases ht'
      refine ⟨b0, base, sz, cap, τt, ⟨c, el, hb0, hcs⟩, hn, ?_, hk, hm, fun l o h1 h2 => hobj l o (back h1 h2).2 h2⟩
      rintro j hj (hz' | ⟨_, _, h3⟩)
      · by_cases h4 : lo ≤ j
        · exact hz j h4 hz'
        · omega
      · omega
    · rw [set_other e] at ht'
      obtain ⟨b, base', sz', cap', h1, h2, h4, h5, h6, h7, h8⟩ := hr.tok t' m ht'
      refine ⟨b, base', sz', cap', (τo t' e).trans h1, h2, h4, ?_, h6, h7, fun l o q1 q2 => h8 l o (back q1 q2).2 q2⟩
      rintro j hj (hz' | ⟨e', _, _⟩)
      · exact h5 j hj hz'
      · exact htok t' m _ ht' h1 e'
  · intro t1 t2 n1 n2 x1 x2 h1 h2 h3 h4 h5
    by_cases e1 : t1 = t
    · by_cases e2 : t2 = t
      · rw [e1, e2]
      · rw [set_other e2] at h2
        rw [τo t2 e2] at h4
        subst e1
        rw [τt] at h3
        obtain rfl := Option.some.inj h3
        exact absurd h5.symm (htok t2 n2 x2 h2 h4)
    · rw [set_other e1] at h1
      rw [τo t1 e1] at h3
      by_cases e2 : t2 = t
      · subst e2
        rw [τt] at h4
        obtain rfl := Option.some.inj h4
        exact absurd h5 (htok t1 n1 x1 h1 h3)
      · rw [set_other e2] at h2
        rw [τo t2 e2] at h4
        exact hr.tokinj t1 t2 n1 n2 x1 x2 h1 h2 h3 h4 h5
  · obtain ⟨N, hN⟩ := hr.fin
    refine ⟨max N (t + 1), fun l1 h1 => ?_⟩
    have hne : l1 ≠ t := by omega
    rw [set_other hne]
    obtain ⟨q1, q2, q3⟩ := hN l1 (by omega)
    exact ⟨q1, q2, (τo l1 hne).trans q3⟩
  · intro t' x hx
    by_cases e : t' = t
    · subst e
      rw [τt] at hx
      obtain rfl := Option.some.inj hx
      exact hlt
    · exact hr.btok t' x (by rwa [τo t' e] at hx)
  · intro l L b h1 h2
    exact hr.loops l L b (back h1 rfl).2 h2
  · intro n' cs hn' j x hx
    obtain ⟨v, h1, h2, h3⟩ := hr.glob n' cs hn' j x hx
    exact ⟨v, h1, .inl h2, h3.mono hle (.refl g H)⟩
  · rintro b j (hz' | ⟨rfl, _⟩)
    · exact .inl hz'
    · exact .inr hk
  · intro l L' hl
    exact ⟨L', (back hl rfl).2, fun _ h => h⟩
  · intro l h1
    by_cases e : l = t
    · subst e; rw [set_same]; simp
    · rwa [set_other e]
end
end Go.Hu

namespace Go.Hu
section
variable {X : Ctx} {g : Gh} {w : World}

theorem run_size {t : TypeId} {n : Nat} (h : X.size t = some n) (w : World) : (sizeOf t).run X.P w = .ok n w := by
  unfold Ctx.size at h
  obtain ⟨i, hi, rfl⟩ := Option.map_eq_some_iff.1 h
  simp [sizeOf, typeInfo, hi]
theorem sh_parts {t : TypeId} {sh : Sh} (h : X.sh t = some sh) : ∃ d, X.P.underlying t = some d ∧ X.size t = some (shN sh) ∧ 0 < shN sh ∧ sh.isSome = d.row := by
  unfold Ctx.sh at h
  split at h
  · rename_i d n hu hs
    split at h
    · cases h
    · split at h
      · rename_i h1 h2; cases h; exact ⟨d, hu, hs, by simp [shN]; omega, by simp [h2]⟩
      · split at h
        · rename_i h1 h2 h3; cases h; subst h3; exact ⟨d, hu, hs, by simp [shN], by simp at h2; simp [h2]⟩
        · cases h
  · cases h
theorem run_isAgg {t : TypeId} {sh : Sh} (h : X.sh t = some sh) (w : World) : (isAgg t).run X.P w = .ok sh.isSome w := by
  obtain ⟨d, hu, _, _, hd⟩ := sh_parts h
  rw [hd]
  unfold isAgg
  rw [Sem.run_bind, run_underlying hu]
  cases d <;> rfl
theorem run_zero {t : TypeId} {z : V} (h : X.zero t = some z) (w : World) : ∃ v, (zeroValue t).run X.P w = .ok v w ∧ cV v = some z := by
  unfold Ctx.zero at h
  obtain ⟨v, hv, hz⟩ := Option.bind_eq_some_iff.1 h
  obtain ⟨i, hi, hiv⟩ := Option.bind_eq_some_iff.1 hv
  exact ⟨v, by simp [zeroValue, typeInfo, hi, hiv], hz⟩

mutual
theorem cV_enc {nm : FuncId → Option Nat} {g : Gh} {H : Heap} : ∀ (v : Value) (x : V), cV v = some x → Enc nm g H x v
  | .bool b, x, h => by simp only [cV, Option.some.injEq] at h; subst h; exact .bool b
  | .int k n, x, h => by cases k <;> simp only [cV, reduceCtorEq, Option.some.injEq] at h; subst h; exact .int n
  | .map r, x, h => by cases r <;> simp only [cV, reduceCtorEq, Option.some.injEq] at h; subst h; exact .nilmap
  | .slice none 0 0, x, h => by simp only [cV, Option.some.injEq] at h; subst h; exact .nillst (by simp)
  | .slice none 0 (_ + 1), x, h => by simp [cV] at h
  | .slice none (_ + 1) _, x, h => by simp [cV] at h
  | .slice (some _) _ _, x, h => by simp [cV] at h
  | .nilFunc, x, h => by simp only [cV, Option.some.injEq] at h; subst h; exact .nilfn
  | .agg ⟨cs⟩, x, h => by
    simp only [cV, Option.map_eq_some_iff] at h
    obtain ⟨xs, hx, rfl⟩ := h
    have := cVs_enc (nm := nm) (g := g) (H := H) cs xs hx
    exact .agg (by simpa using this.1) fun j x hj => by simpa using this.2 j x hj
  | .float _ _, _, h => by simp [cV] at h
  | .complex _ _ _, _, h => by simp [cV] at h
  | .string _, _, h => by simp [cV] at h
  | .pointer _, _, h => by simp [cV] at h
  | .chan _, _, h => by simp [cV] at h
  | .func _ _ _, _, h => by simp [cV] at h
  | .iface _ _, _, h => by simp [cV] at h
  | .nilIface, _, h => by simp [cV] at h
  | .tuple _, _, h => by simp [cV] at h
theorem cVs_enc {nm : FuncId → Option Nat} {g : Gh} {H : Heap} : ∀ (l : List Value) (xs : List V), cVs l = some xs → xs.length = l.length ∧ ∀ (j : Nat) x, xs[j]? = some x → Enc nm g H x (l.getD j undef)
  | [], xs, h => by simp only [cVs, Option.some.injEq] at h; subst h; simp
  | v :: vs, xs, h => by
    simp only [cVs, Option.bind_eq_some_iff, Option.map_eq_some_iff] at h
    obtain ⟨y, hy, ys, hys, rfl⟩ := h
    have ih := cVs_enc (nm := nm) (g := g) (H := H) vs ys hys
    refine ⟨by simp [ih.1], fun j x hx => ?_⟩
    cases j with
    | zero => simp at hx; subst hx; exact cV_enc (nm := nm) (g := g) (H := H) v y hy
    | succ j => simp at hx; simpa using ih.2 j x hx
end

/-- What is read at an address: cells that tell a pure row. -/
theorem load_any {t : TypeId} {sh : Sh} (hsh : X.sh t = some sh) {b base o : Nat} {cs : List V} (hc : ∀ j x, cs[j]? = some x → ∃ v, cellH w.heap b (base + j) = some v ∧ Enc X.nm g w.heap x v) {x : V} (h : takeAt sh cs o = some x) :
    ∃ v, (loadVar t ⟨b, base + o, none⟩).run X.P w = .ok v w ∧ Enc X.nm g w.heap x v := by
  obtain ⟨d, hu, hs, hp, hd⟩ := sh_parts hsh
  cases sh with
  | none =>
    simp only [takeAt] at h
    obtain ⟨v, hv, he⟩ := hc o x h
    refine ⟨v, ?_, he⟩
    simp only [loadVar, Sem.run_bind, run_isAgg hsh, Result.andThen_ok]
    simp [cell?_eq, hv]
  | some n =>
    simp only [takeAt] at h
    split at h
    · rename_i hn
      cases h
      have hn0 : 0 < n := by simpa [shN] using hp
      let f : Nat → Value := fun j => (cellH w.heap b (base + o + j)).getD undef
      have hf : ∀ j, j < n → ∃ x, cs[o + j]? = some x ∧ cellH w.heap b (base + o + j) = some (f j) ∧ Enc X.nm g w.heap x (f j) := by
        intro j hj
        have hlt : o + j < cs.length := by omega
        obtain ⟨v, hv, he⟩ := hc (o + j) cs[o + j] (by simp [hlt])
        have hv' : cellH w.heap b (base + o + j) = some v := by rw [← Nat.add_assoc] at hv; exact hv
        refine ⟨cs[o + j], by simp [hlt], ?_, ?_⟩
        · simp [f, hv']
        · simpa [f, hv'] using he
      refine ⟨.agg ((List.range n).map f).toArray, ?_, ?_⟩
      · refine run_loadVar_mid w b (base + o) t ((List.range n).map f) d ?_ hu (by cases d <;> simp_all [TypeDesc.row]) ?_
        · intro j v hv
          have hj : j < n := by
            have := (List.getElem?_eq_some_iff.1 hv).1
            simpa using this
          simp [hj] at hv
          obtain ⟨x, _, h2, _⟩ := hf j hj
          rw [cell?_eq, h2, hv]
        · simpa [Ctx.size, shN] using hs
      · refine .agg (by simp; omega) fun j x hx => ?_
        rw [List.getElem?_take] at hx
        split at hx
        · rename_i hj
          rw [List.getElem?_drop] at hx
          obtain ⟨y, h1, h2, h3⟩ := hf j hj
          obtain rfl := Option.some.inj (hx.symm.trans h1)
          simpa [hj] using h3
        · cases hx
    · cases h

/-- A part of an aggregate. -/
theorem part_any {t : TypeId} {sh : Sh} (hsh : X.sh t = some sh) {cs : List V} {c : Array Value} (hc : EncL X.nm g w.heap cs c) {o : Nat} {x : V} (h : takeAt sh cs o = some x) :
    ∃ v, (part t c o).run X.P w = .ok v w ∧ Enc X.nm g w.heap x v := by
  obtain ⟨d, hu, hs, hp, hd⟩ := sh_parts hsh
  cases sh with
  | none =>
    simp only [takeAt] at h
    obtain ⟨v, hv, he⟩ := hc.get h
    exact ⟨v, by simp [part, Sem.run_bind, run_isAgg hsh, hv], he⟩
  | some n =>
    simp only [takeAt] at h
    split at h
    · rename_i hn
      cases h
      refine ⟨.agg (c.extract o (o + n)), by simp [part, Sem.run_bind, run_isAgg hsh, run_size hs, shN], .agg ?_ fun j x hx => ?_⟩
      · have := hc.1; simp; omega
      · rw [List.getElem?_take] at hx
        split at hx
        · rename_i hj
          rw [List.getElem?_drop] at hx
          obtain ⟨v, hv, he⟩ := hc.get hx
          have hlt : o + j < c.size := (Array.getElem?_eq_some_iff.1 hv).1
          have : (c.extract o (o + n)).getD j undef = v := by
            rw [Array.getD_eq_getD_getElem?, Array.getElem?_extract]
            have : j < min (o + n) c.size - o := by omega
            simp [this, hv]
          rw [this]
          exact he
        · cases hx
    · cases h

/-! ## Operands -/
def valOf (tmps : Array Value) : Operand → Value
  | .tmp t => tmps.getD t undef
  | .const v => v
  | .global n => .pointer (some ⟨n, 0, none⟩)
  | .func f => .func (.func f) #[] #[]

/-- The slots that are no promoted variables tell their values. -/
def Slots (X : Ctx) (h : Hint) (g : Gh) (H : Heap) (e : Env) (tmps : Array Value) : Prop := ∀ t, h.prom.contains t = false → Enc X.nm g H (e t) (tmps.getD t undef)
def Globs (X : Ctx) (g : Gh) (H : Heap) : Prop := ∀ n cs, X.gl n = some cs → ∀ (j : Nat) x, cs[j]? = some x → ∃ v, cellH H n j = some v ∧ g.Z n j ∧ Enc X.nm g H x v

variable {h : Hint} {e : Env} {tmps : Array Value}
theorem glob_enc {H : Heap} (hg : Globs X g H) {n : Nat} {cs : List V} (hn : X.gl n = some cs) : Enc X.nm g H (.rptr cs 0) (.pointer (some ⟨n, 0, none⟩)) := by
  refine .rptr (base := 0) (o := 0) (vs := fun j => (cellH H n j).getD undef) ?_ ?_ ?_
  · intro j hj
    obtain ⟨v, h1, _, _⟩ := hg n cs hn j cs[j] (by simp [hj])
    simp [h1]
  · intro j hj
    obtain ⟨v, _, h2, _⟩ := hg n cs hn j cs[j] (by simp [hj])
    simpa using h2
  · intro j x hx
    obtain ⟨v, h1, _, h3⟩ := hg n cs hn j x hx
    simpa [h1] using h3
theorem opd_enc {H : Heap} (hs : Slots X h g H e tmps) (hg : Globs X g H) {a : Operand} {x : Opd} (hx : X.opd h a = some x) : Enc X.nm g H (ev e x) (valOf tmps a) := by
  cases a with
  | tmp t =>
    simp only [Ctx.opd] at hx
    split at hx
    · cases hx
    · rename_i hp
      cases hx
      exact hs t (by simpa using hp)
  | const v =>
    simp only [Ctx.opd, Option.map_eq_some_iff] at hx
    obtain ⟨y, hy, rfl⟩ := hx
    exact cV_enc v y hy
  | func f =>
    simp only [Ctx.opd, Option.map_eq_some_iff] at hx
    obtain ⟨k, hk, rfl⟩ := hx
    exact .fn hk rfl rfl (fun j x hx => by simp at hx) (fun j x hx => by simp at hx)
  | global n =>
    simp only [Ctx.opd, Option.map_eq_some_iff] at hx
    obtain ⟨cs, hc, rfl⟩ := hx
    exact glob_enc hg hc
theorem opds_enc {H : Heap} (hs : Slots X h g H e tmps) (hg : Globs X g H) : ∀ {as : List Operand} {xs : List Opd}, as.mapM (X.opd h) = some xs →
    xs.length = as.length ∧ ∀ (j : Nat) x, (xs.map (ev e))[j]? = some x → Enc X.nm g H x ((as.map (valOf tmps)).getD j undef)
  | [], xs, hx => by simp at hx; subst hx; simp
  | a :: as, xs, hx => by
    simp only [List.mapM_cons, Option.bind_eq_bind, Option.bind_eq_some_iff, Option.pure_def, Option.some.injEq] at hx
    obtain ⟨y, hy, ys, hys, rfl⟩ := hx
    have ih := opds_enc hs hg hys
    refine ⟨by simp [ih.1], fun j x hj => ?_⟩
    cases j with
    | zero => simp at hj; subst hj; exact opd_enc hs hg hy
    | succ j => simp at hj; simpa using ih.2 j x (by simpa using hj)

/-! ## One operation each -/
theorem w64_eq (n : Int) : IntKind.i64.wrap n = w64 n := by
  unfold w64 IntKind.wrap
  simp [IntKind.signed, IntKind.bits]
  omega

theorem run_bin {op : BinOp} {t : TypeId} {a b : Int} {z : V} (hz : binV op (.int a) (.int b) = some z) (x y : Operand) :
    ∃ v, (do eqGuard op t x y (.int .i64 a) (.int .i64 b); binOp op t (.int .i64 a) (.int .i64 b) : Sem Value).run X.P w = .ok v w ∧ Enc X.nm g w.heap z v := by
  rw [eqGuard_at_int]
  simp only [Sem.run_bind, Sem.run_pure, Result.andThen_ok]
  cases op <;> simp only [binV, reduceCtorEq, Option.some.injEq] at hz
  case add => subst hz; exact ⟨_, by rw [binOp_add]; simp [Op.intArith, w64_eq], .int _⟩
  case sub => subst hz; exact ⟨_, by rw [binOp_sub]; simp [Op.intArith, w64_eq], .int _⟩
  case mul => subst hz; exact ⟨_, by rw [binOp_mul]; simp [Op.intArith, w64_eq], .int _⟩
  case quo =>
    split at hz
    · cases hz
    · rename_i hb; cases hz; exact ⟨_, by rw [binOp_quo]; simp [Op.intDiv, hb, w64_eq], .int _⟩
  case rem =>
    split at hz
    · cases hz
    · rename_i hb; cases hz; exact ⟨_, by rw [binOp_rem]; simp [Op.intDiv, hb], .int _⟩
  case lss => subst hz; exact ⟨_, by rw [binOp_lss]; rfl, .bool _⟩
  case leq => subst hz; exact ⟨_, by rw [binOp_leq]; rfl, .bool _⟩
  case gtr => subst hz; exact ⟨_, by rw [binOp_gtr]; rfl, .bool _⟩
  case geq => subst hz; exact ⟨_, by rw [binOp_geq]; rfl, .bool _⟩
  case and => subst hz; exact ⟨_, by rw [binOp_and]; simp [Op.intBits, w64_eq, IntKind.bits]; rfl, .int _⟩
  case or => subst hz; exact ⟨_, by rw [binOp_or]; simp [Op.intBits, w64_eq, IntKind.bits]; rfl, .int _⟩
  case shl =>
    split at hz
    · rename_i hb
      cases hz
      refine ⟨.int .i64 (w64 (a * 2 ^ b.toNat)), ?_, .int _⟩
      rw [binOp_shl]
      have h1 : ¬ b < 0 := by omega
      have h2 : min b.toNat IntKind.i64.bits = b.toNat := by simp [IntKind.bits]; omega
      simp [Op.shift, h1, h2, w64_eq]
    · cases hz
  case shr =>
    split at hz
    · rename_i hb
      cases hz
      refine ⟨.int .i64 (a.fdiv (2 ^ b.toNat)), ?_, .int _⟩
      rw [binOp_shr]
      have h1 : ¬ b < 0 := by omega
      have h2 : min b.toNat IntKind.i64.bits = b.toNat := by simp [IntKind.bits]; omega
      simp [Op.shift, h1, h2]
    · cases hz
end
end Go.Hu

set_option linter.unusedSimpArgs false
set_option linter.unusedVariables false
namespace Go.Hu
section
variable {X : Ctx} {g : Gh} {w : World}

/-- A step of the model yields a value that tells. -/
def VOk (X : Ctx) (g : Gh) (w : World) (s : Sem Value) (x : V) : Prop := ∃ v, s.run X.P w = .ok v w ∧ Enc X.nm g w.heap x v
theorem VOk.next {s : Sem Value} {x : V} (h : VOk X g w s x) : ∃ v, (do pure (Next.value (← s)) : Sem Next).run X.P w = .ok (.value v) w ∧ Enc X.nm g w.heap x v := by
  obtain ⟨v, h1, h2⟩ := h
  exact ⟨v, by simp [h1], h2⟩

theorem fieldOf_parts {t : TypeId} {f off : Nat} {ft : TypeId} (h : fieldOf X t f = some (off, ft)) : ∃ fs fd, X.P.underlying t = some (.struct fs) ∧ fs[f]? = some fd ∧ fd.offset = off ∧ fd.type = ft := by
  unfold fieldOf at h
  split at h
  · rename_i fs hu
    obtain ⟨fd, h1, h2⟩ := Option.map_eq_some_iff.1 h
    cases h2
    exact ⟨fs, fd, hu, h1, rfl, rfl⟩
  · cases h

theorem ok_fld {t : TypeId} {f off : Nat} {ft : TypeId} {sh : Sh} {x y : V} {v : Value} (hf : fieldOf X t f = some (off, ft)) (hs : X.sh ft = some sh) (hx : Enc X.nm g w.heap x v)
    (h : pv (.fld off sh) [x] = some y) : VOk X g w (Instr.field t v f) y := by
  obtain ⟨fs, fd, hu, h1, rfl, rfl⟩ := fieldOf_parts hf
  cases x <;> simp only [pv, reduceCtorEq] at h
  obtain ⟨c, rfl, hc⟩ := hx.of_agg
  obtain ⟨v, hv, he⟩ := part_any hs hc h
  exact ⟨v, by simp [Instr.field, run_underlying hu, h1, asAgg, hv], he⟩

theorem ok_idx {t el : TypeId} {len sz : Nat} {sh : Sh} {x i y : V} {v vi : Value} (hu : X.P.underlying t = some (.array len el)) (hz : X.size el = some sz) (hs : X.sh el = some sh)
    (hx : Enc X.nm g w.heap x v) (hi : Enc X.nm g w.heap i vi) (h : pv (.idx len sz sh) [x, i] = some y) : VOk X g w (Instr.index t v vi) y := by
  cases x <;> simp only [pv, reduceCtorEq] at h
  cases i <;> simp only [pv, reduceCtorEq] at h
  obtain ⟨c, rfl, hc⟩ := hx.of_agg
  obtain rfl := hi.of_int
  split at h
  · rename_i hb
    obtain ⟨v, hv, he⟩ := part_any hs hc h
    refine ⟨v, ?_, he⟩
    simp only [Instr.index, asIntOf, Sem.run_bind, Sem.run_pure, Result.andThen_ok, run_underlying hu]
    rw [if_pos hb]
    simp [run_size hz, hv]
  · cases h

theorem ok_ext {i : Nat} {x y : V} {v : Value} (hx : Enc X.nm g w.heap x v) (h : pv (.ext i) [x] = some y) : VOk X g w (Instr.extract v i) y := by
  cases x <;> simp only [pv, reduceCtorEq] at h
  obtain ⟨c, rfl, hc⟩ := hx.of_tup
  obtain ⟨v, hv, he⟩ := hc.get h
  exact ⟨v, by simp [Instr.extract, hv], he⟩

theorem Enc.of_lst {nm : FuncId → Option Nat} {H : Heap} {xs : List V} {c : Cap} {v : Value} (h : Enc nm g H (.lst xs c) v) : (xs = [] ∧ v = .slice none 0 0 ∧ ∀ t, c ≠ .tok t) ∨
    ∃ (b base sz cap : Nat) (vs : Nat → Value), v = .slice (some ⟨b, base, none⟩) xs.length cap ∧ (∀ x ∈ xs, x.cells.length = sz) ∧ (∀ j, j < (xs.flatMap V.cells).length → cellH H b (base + j) = some (vs j)) ∧
      (∀ j, j < (xs.flatMap V.cells).length → g.Z b (base + j)) ∧ (∀ j x, (xs.flatMap V.cells)[j]? = some x → Enc nm g H x (vs j)) ∧ capOk g c b base sz xs.length cap ∧ xs.length ≤ cap := by
  cases h with
  | nillst hc => exact .inl ⟨rfl, rfl, hc⟩
  | lst hs hc hz he hk hn => exact .inr ⟨_, _, _, _, _, rfl, hs, hc, hz, he, hk, hn⟩
theorem Enc.of_sli {nm : FuncId → Option Nat} {H : Heap} {l o n c : Nat} {v : Value} (h : Enc nm g H (.sli l o n c) v) : ∃ b, v = .slice (some ⟨b, o, none⟩) n c ∧ g.β l = some b := by
  cases h with
  | sli h => exact ⟨_, rfl, h⟩
theorem Enc.of_ptr {nm : FuncId → Option Nat} {H : Heap} {l o : Nat} {v : Value} (h : Enc nm g H (.ptr l o) v) : ∃ b, v = .pointer (some ⟨b, o, none⟩) ∧ g.β l = some b := by
  cases h with
  | ptr h => exact ⟨_, rfl, h⟩
theorem Enc.of_rptr {nm : FuncId → Option Nat} {H : Heap} {cs : List V} {o : Nat} {v : Value} (h : Enc nm g H (.rptr cs o) v) : ∃ (b base : Nat) (vs : Nat → Value), v = .pointer (some ⟨b, base + o, none⟩) ∧
    (∀ j, j < cs.length → cellH H b (base + j) = some (vs j)) ∧ (∀ j, j < cs.length → g.Z b (base + j)) ∧ ∀ j x, cs[j]? = some x → Enc nm g H x (vs j) := by
  cases h with
  | rptr hc hz he => exact ⟨_, _, _, rfl, hc, hz, he⟩
theorem Enc.of_map {nm : FuncId → Option Nat} {H : Heap} {l : Nat} {v : Value} (h : Enc nm g H (.map (some l)) v) : ∃ b, v = .map (some b) ∧ g.β l = some b := by
  cases h with
  | map h => exact ⟨_, rfl, h⟩
theorem Enc.of_nilmap {nm : FuncId → Option Nat} {H : Heap} {v : Value} (h : Enc nm g H (.map none) v) : v = .map none := by
  cases h with
  | nilmap => rfl

theorem ok_len {t ty el : TypeId} {x y : V} {v : Value} (hu : X.P.underlying t = some (.slice el)) (hx : Enc X.nm g w.heap x v) (h : pv .len [x] = some y) (args : Array TypeId) (ha : args[0]? = some t) :
    VOk X g w (Builtin.len_ args ty #[v]) y := by
  cases x <;> simp only [pv, reduceCtorEq, Option.some.injEq] at h
  · subst h
    rcases hx.of_lst with ⟨rfl, rfl, _⟩ | ⟨b, base, sz, cap, vs, rfl, _⟩
    · exact ⟨.int .i64 0, by simp [Builtin.len_, ha, run_underlying hu, goInt], .int _⟩
    · exact ⟨.int .i64 _, by simp [Builtin.len_, ha, run_underlying hu, goInt], .int _⟩
  · subst h
    obtain ⟨b, rfl, _⟩ := hx.of_sli
    exact ⟨.int .i64 _, by simp [Builtin.len_, ha, run_underlying hu, goInt], .int _⟩
theorem ok_cap {t ty el : TypeId} {x y : V} {v : Value} (hu : X.P.underlying t = some (.slice el)) (hx : Enc X.nm g w.heap x v) (h : pv .cap [x] = some y) (args : Array TypeId) (ha : args[0]? = some t) :
    VOk X g w (Builtin.cap_ args ty #[v]) y := by
  cases x <;> simp only [pv, reduceCtorEq, Option.some.injEq] at h
  subst h
  obtain ⟨b, rfl, _⟩ := hx.of_sli
  exact ⟨.int .i64 _, by simp [Builtin.cap_, ha, run_underlying hu, goInt], .int _⟩

theorem ok_max_go {op : Value → Value → Sem Value} {f : Int → Int → Int} (hop : ∀ a b, op (.int .i64 a) (.int .i64 b) = pure (.int .i64 (f a b))) :
    ∀ (xs : List V) (vs : List Value) (a r : Int), xs.length = vs.length → (∀ (j : Nat) x v, xs[j]? = some x → vs[j]? = some v → Enc X.nm g w.heap x v) →
      xs.foldlM (fun m (v : V) => match v with | .int b => some (f m b) | _ => none) a = some r → (vs.foldlM op (.int .i64 a)).run X.P w = .ok (.int .i64 r) w
  | [], [], a, r, _, _, h => by simp at h; simp [h]
  | [], _ :: _, _, _, hl, _, _ => by simp at hl
  | _ :: _, [], _, _, hl, _, _ => by simp at hl
  | x :: xs, v :: vs, a, r, hl, he, h => by
    have h0 := he 0 x v (by simp) (by simp)
    cases x <;> simp only [List.foldlM_cons, Option.bind_eq_bind, Option.bind_none, reduceCtorEq, Option.bind_some] at h
    rename_i n
    obtain rfl := h0.of_int
    simp only [List.foldlM_cons, hop, Sem.run_bind, Sem.run_pure, Result.andThen_ok]
    exact ok_max_go hop xs vs _ r (by simpa using hl) (fun j x v h1 h2 => he (j + 1) x v (by simpa using h1) (by simpa using h2)) h
theorem ok_max {ts : Array TypeId} {ty : TypeId} {xs : List V} {vs : Array Value} {y : V} (he : EncL X.nm g w.heap xs vs) (h : pv .max xs = some y) : VOk X g w (Builtin.max_ ts ty vs) y := by
  rcases xs with _ | ⟨x, xs⟩
  · simp [pv] at h
  cases x <;> simp only [pv, reduceCtorEq, Option.map_eq_some_iff] at h
  rename_i a
  obtain ⟨r, hr, rfl⟩ := h
  obtain ⟨l⟩ := vs
  rcases l with _ | ⟨v, vs⟩
  · have := he.1; simp at this
  have h0 := he.get (j := 0) (x := .int a) (by simp)
  obtain ⟨v', h1, h2⟩ := h0
  obtain rfl : v = v' := by simpa using h1
  obtain rfl := h2.of_int
  refine ⟨_, ok_max_go (g := g) (op := Builtin.max2) (f := fun m b => if b > m then b else m) (fun _ _ => rfl) xs vs a r (by simpa using he.1) ?_ hr, .int r⟩
  intro j x v hx hv
  obtain ⟨v', h1, h2⟩ := he.get (j := j + 1) (x := x) (by simpa using hx)
  obtain rfl : v = v' := by simp at h1; exact Option.some.inj (hv.symm.trans h1)
  exact h2
theorem ok_min {ts : Array TypeId} {ty : TypeId} {xs : List V} {vs : Array Value} {y : V} (he : EncL X.nm g w.heap xs vs) (h : pv .min xs = some y) : VOk X g w (Builtin.min_ ts ty vs) y := by
  rcases xs with _ | ⟨x, xs⟩
  · simp [pv] at h
  cases x <;> simp only [pv, reduceCtorEq, Option.map_eq_some_iff] at h
  rename_i a
  obtain ⟨r, hr, rfl⟩ := h
  obtain ⟨l⟩ := vs
  rcases l with _ | ⟨v, vs⟩
  · have := he.1; simp at this
  have h0 := he.get (j := 0) (x := .int a) (by simp)
  obtain ⟨v', h1, h2⟩ := h0
  obtain rfl : v = v' := by simpa using h1
  obtain rfl := h2.of_int
  refine ⟨_, ok_max_go (g := g) (op := Builtin.min2) (f := fun m b => if b < m then b else m) (fun _ _ => rfl) xs vs a r (by simpa using he.1) ?_ hr, .int r⟩
  intro j x v hx hv
  obtain ⟨v', h1, h2⟩ := he.get (j := j + 1) (x := x) (by simpa using hx)
  obtain rfl : v = v' := by simp at h1; exact Option.some.inj (hv.symm.trans h1)
  exact h2

theorem ok_fa {t : TypeId} {f off : Nat} {ft : TypeId} {sh : Sh} {x y : V} {v : Value} (hf : fieldOf X t f = some (off, ft)) (hs : X.sh ft = some sh) (hx : Enc X.nm g w.heap x v)
    (h : pv (.fa off) [x] = some y) : VOk X g w (Instr.fieldAt t v f) y := by
  obtain ⟨fs, fd, hu, h1, rfl, rfl⟩ := fieldOf_parts hf
  obtain ⟨d, _, hsz, hp, _⟩ := sh_parts hs
  have hne : ¬ shN sh = 0 := by omega
  cases x <;> simp only [pv, reduceCtorEq, Option.some.injEq] at h
  · subst h
    obtain ⟨b, rfl, hb⟩ := hx.of_ptr
    refine ⟨_, ?_, .ptr hb⟩
    simp [Instr.fieldAt, run_underlying hu, h1, Instr.sureAddr, fieldPlace, run_size hsz, hne, Addr.add_lit]
  · subst h
    obtain ⟨b, base, vs, rfl, h2, h3, h4⟩ := hx.of_rptr
    refine ⟨_, ?_, .rptr (b := b) (base := base) h2 h3 h4⟩
    simp [Instr.fieldAt, run_underlying hu, h1, Instr.sureAddr, fieldPlace, run_size hsz, hne, Addr.add_lit, Nat.add_assoc]

theorem ok_ia {t el : TypeId} {len sz : Nat} {x i y : V} {v vi : Value} (hu : X.P.underlying t = some (.array len el)) (hz : X.size el = some sz)
    (hx : Enc X.nm g w.heap x v) (hi : Enc X.nm g w.heap i vi) (h : pv (.ia len sz) [x, i] = some y) : VOk X g w (Instr.indexAt t v vi) y := by
  cases x <;> simp only [pv, reduceCtorEq] at h <;> cases i <;> simp only [pv, reduceCtorEq] at h
  · obtain rfl := hi.of_int
    split at h
    · rename_i hb
      cases h
      obtain ⟨b, rfl, hb'⟩ := hx.of_ptr
      refine ⟨_, ?_, .ptr hb'⟩
      simp [Instr.indexAt, asIntOf, run_underlying hu, Instr.sureAddr, hb, run_size hz, Addr.add_lit]
    · cases h
  · obtain rfl := hi.of_int
    split at h
    · rename_i hb
      cases h
      obtain ⟨b, base, vs, rfl, h2, h3, h4⟩ := hx.of_rptr
      refine ⟨_, ?_, .rptr (b := b) (base := base) h2 h3 h4⟩
      simp [Instr.indexAt, asIntOf, run_underlying hu, Instr.sureAddr, hb, run_size hz, Addr.add_lit, Nat.add_assoc]
    · cases h

theorem flat_get {sz : Nat} : ∀ {xs : List V} (_ : ∀ x ∈ xs, x.cells.length = sz) {i j : Nat} {x : V}, xs[i]? = some x → j < sz →
    i * sz + j < (xs.flatMap V.cells).length ∧ (xs.flatMap V.cells)[i * sz + j]? = x.cells[j]?
  | [], _, i, j, x, h, _ => by simp at h
  | y :: ys, hs, 0, j, x, h, hj => by
    simp at h
    subst h
    have := hs y (by simp)
    simp only [List.flatMap_cons, Nat.zero_mul, Nat.zero_add, List.length_append]
    exact ⟨by omega, by rw [List.getElem?_append_left (by omega)]⟩
  | y :: ys, hs, i + 1, j, x, h, hj => by
    have hy := hs y (by simp)
    obtain ⟨h1, h2⟩ := flat_get (sz := sz) (xs := ys) (fun x hx => hs x (by simp [hx])) (i := i) (j := j) (x := x) (by simpa using h) hj
    have e : (i + 1) * sz + j = sz + (i * sz + j) := by rw [Nat.succ_mul]; omega
    rw [e]
    simp only [List.flatMap_cons, List.length_append]
    exact ⟨by omega, by rw [List.getElem?_append_right (by omega), ← h2]; congr 1; omega⟩
theorem flat_len {sz : Nat} : ∀ {xs : List V}, (∀ x ∈ xs, x.cells.length = sz) → (xs.flatMap V.cells).length = xs.length * sz
  | [], _ => by simp
  | x :: xs, h => by
    simp only [List.flatMap_cons, List.length_append, List.length_cons, h x (by simp), flat_len (xs := xs) (fun y hy => h y (by simp [hy])), Nat.succ_mul]
    omega

theorem ok_ea {t el : TypeId} {sz : Nat} {x i y : V} {v vi : Value} (hu : X.P.underlying t = some (.slice el)) (hz : X.size el = some sz)
    (hx : Enc X.nm g w.heap x v) (hi : Enc X.nm g w.heap i vi) (h : pv (.ea sz) [x, i] = some y) : VOk X g w (Instr.indexAt t v vi) y := by
  cases x <;> simp only [pv, reduceCtorEq] at h <;> cases i <;> simp only [pv, reduceCtorEq] at h
  · rename_i xs c n
    obtain rfl := hi.of_int
    split at h
    · rename_i hb
      obtain ⟨x, hx1, hx2⟩ := Option.bind_eq_some_iff.1 h
      split at hx2
      · rename_i hsz
        cases hx2
        have hlt : n.toNat < xs.length := (List.getElem?_eq_some_iff.1 hx1).1
        rcases hx.of_lst with ⟨rfl, rfl, _⟩ | ⟨b, base, sz', cap, vs, rfl, hs, hc, hZ, he, _, _⟩
        · simp at hlt
        · have e : sz' = sz := by rw [← hs x (List.mem_of_getElem? hx1), hsz]
          subst e
          have hbd : 0 ≤ n ∧ n < (xs.length : Int) := ⟨hb, by omega⟩
          refine ⟨.pointer (some ⟨b, (base + n.toNat * sz') + 0, none⟩), ?_, .rptr (b := b) (base := base + n.toNat * sz') (vs := fun j => vs (n.toNat * sz' + j)) ?_ ?_ ?_⟩
          · simp [Instr.indexAt, asIntOf, run_underlying hu, hbd, run_size hz, Addr.add_lit]
          · intro j hj
            have := flat_get hs hx1 (j := j) (by omega)
            rw [Nat.add_assoc]
            exact hc _ this.1
          · intro j hj
            have := flat_get hs hx1 (j := j) (by omega)
            rw [Nat.add_assoc]
            exact hZ _ this.1
          · intro j x' hj
            have hj' : j < sz' := by rw [← hsz]; exact (List.getElem?_eq_some_iff.1 hj).1
            have := flat_get hs hx1 (j := j) hj'
            exact he _ _ (this.2.trans hj)
      · cases hx2
    · cases h
  · rename_i l o n c i
    obtain rfl := hi.of_int
    split at h
    · rename_i hb
      cases h
      obtain ⟨b, rfl, hb'⟩ := hx.of_sli
      refine ⟨_, ?_, .ptr hb'⟩
      simp [Instr.indexAt, asIntOf, run_underlying hu, hb, run_size hz, Addr.add_lit]
    · cases h

theorem ok_eload {t : TypeId} {sh : Sh} {x y : V} {v : Value} (hs : X.sh t = some sh) (hx : Enc X.nm g w.heap x v) (h : pv (.eload sh) [x] = some y) : VOk X g w (Instr.loadAt t v) y := by
  cases x <;> simp only [pv, reduceCtorEq] at h
  obtain ⟨b, base, vs, rfl, h2, h3, h4⟩ := hx.of_rptr
  obtain ⟨v, hv, he⟩ := load_any (w := w) hs (b := b) (base := base) (fun j x hj => ⟨vs j, h2 j (List.getElem?_eq_some_iff.1 hj).1, h4 j x hj⟩) h
  exact ⟨v, by simp [Instr.loadAt, Instr.sureAddr, hv], he⟩


/-! ## Slices -/
theorem lst_sub {nm : FuncId → Option Nat} {H : Heap} {xs : List V} {b base sz : Nat} {vs : Nat → Value} (hs : ∀ x ∈ xs, x.cells.length = sz)
    (hc : ∀ j, j < (xs.flatMap V.cells).length → cellH H b (base + j) = some (vs j)) (hz : ∀ j, j < (xs.flatMap V.cells).length → g.Z b (base + j))
    (he : ∀ j x, (xs.flatMap V.cells)[j]? = some x → Enc nm g H x (vs j)) {lo hi cap' : Nat} {c : Cap} (h1 : lo ≤ hi) (h2 : hi ≤ xs.length)
    (hk : capOk g c b (base + lo * sz) sz (hi - lo) cap') (hn : hi - lo ≤ cap') : Enc nm g H (.lst ((xs.take hi).drop lo) c) (.slice (some ⟨b, base + lo * sz, none⟩) (hi - lo) cap') := by
  have hl : ((xs.take hi).drop lo).length = hi - lo := by simp; omega
  have hs' : ∀ x ∈ (xs.take hi).drop lo, x.cells.length = sz := fun x hx => hs x (List.mem_of_mem_take (List.mem_of_mem_drop hx))
  have key : ∀ j, j < (((xs.take hi).drop lo).flatMap V.cells).length → lo * sz + j < (xs.flatMap V.cells).length ∧ (xs.flatMap V.cells)[lo * sz + j]? = (((xs.take hi).drop lo).flatMap V.cells)[j]? := by
    intro j hj
    have e : xs = xs.take lo ++ ((xs.take hi).drop lo ++ xs.drop hi) := by
      have e1 : xs.take lo = (xs.take hi).take lo := by rw [List.take_take, Nat.min_eq_left h1]
      rw [← List.append_assoc, e1, List.take_append_drop, List.take_append_drop]
    have e2 : xs.flatMap V.cells = (xs.take lo).flatMap V.cells ++ (((xs.take hi).drop lo).flatMap V.cells ++ (xs.drop hi).flatMap V.cells) := by
      conv => lhs; rw [e]
      simp
    have e3 : ((xs.take lo).flatMap V.cells).length = lo * sz := by
      rw [flat_len (sz := sz) fun x hx => hs x (List.mem_of_mem_take hx), List.length_take, Nat.min_eq_left (by omega)]
    rw [e2]
    constructor
    · simp only [List.length_append]; omega
    · rw [List.getElem?_append_right (by omega), e3, Nat.add_sub_cancel_left, List.getElem?_append_left hj]
  rw [← hl] at hk hn ⊢
  refine .lst (sz := sz) hs' (vs := fun j => vs (lo * sz + j)) ?_ ?_ ?_ hk hn
  · intro j hj
    rw [Nat.add_assoc]
    exact hc _ (key j hj).1
  · intro j hj
    rw [Nat.add_assoc]
    exact hz _ (key j hj).1
  · intro j x hx
    have hj := (List.getElem?_eq_some_iff.1 hx).1
    exact he _ _ ((key j hj).2.trans hx)

theorem hd_sz {xs : List V} {sz sz' : Nat} (h : hd xs sz = true) (hs : ∀ x ∈ xs, x.cells.length = sz') (hne : xs ≠ []) : sz' = sz := by
  cases xs with
  | nil => exact absurd rfl hne
  | cons x xs => simp only [hd, beq_iff_eq] at h; rw [← hs x (by simp), h]

theorem elem_of {t el : TypeId} (hu : X.P.underlying t = some (.slice el)) : X.P.underlying t = some (.slice (X.P.elem t)) := by
  simp [Program.elem, hu]

def mxv (mx : Option Int) (cap : Nat) : Nat := (mx.map Int.toNat).getD cap
/-- A part of a list: what the model's row of bounds comes to. -/
theorem slc_lst {t el : TypeId} {sz : Nat} (hu : X.P.underlying t = some (.slice el)) (hz : X.size el = some sz) {xs : List V} {c : Cap} {v : Value} (hx : Enc X.nm g w.heap (.lst xs c) v) {lo hi : Int} {mx : Option Int} {y : V}
    (h : slcV sz xs c lo hi mx = some y) {l h' m : Option Value}
    (hb : ∀ (len cap : Nat), len ≤ cap → xs.length = len → (Instr.sliceBounds true len cap l h' m).run X.P w = .ok (lo.toNat, hi.toNat, mxv mx cap) w) :
    VOk X g w (Instr.sliceAt t v l h' m) y := by
  unfold slcV at h
  split at h
  · rename_i hcond
    obtain ⟨h0, h1, h2, h3⟩ := hcond
    rcases hx.of_lst with ⟨rfl, rfl, hct⟩ | ⟨b, base, sz', cap, vs, rfl, hs, hc, hZ, he, hk, hn⟩
    · obtain rfl : lo = 0 := by simp at h2; omega
      obtain rfl : hi = 0 := by simp at h2; omega
      have hrun : (Instr.sliceAt t (.slice none 0 0) l h' m).run X.P w = .ok (.slice none 0 0) w := by
        rw [run_sliceAt_slice _ _ _ _ _ _ (elem_of hu), run_slice_any _ _ _ _ _ (elem_of hu), hb 0 0 (Nat.le_refl _) rfl]
        have : X.P.elem t = el := by simp [Program.elem, hu]
        cases mx with
        | none => simp [this, run_size hz, sliced, mxv]
        | some m =>
          have hm : m = 0 := by
            by_cases e : m = 0
            · exact e
            · simp [e] at h
          subst hm
          simp [this, run_size hz, sliced, mxv]
      cases mx with
      | none =>
        cases h
        exact ⟨_, hrun, .nillst (by simpa using hct)⟩
      | some m =>
        simp only at h
        split at h
        · cases h; exact ⟨_, hrun, .nillst (by simp)⟩
        · cases h
    · have hsz : xs ≠ [] → sz' = sz := hd_sz h3 hs
      have hoff : lo.toNat * sz = lo.toNat * sz' := by
        by_cases e : xs = []
        · subst e
          have : lo.toNat = 0 := by simp at h2; omega
          simp [this]
        · rw [hsz e]
      have hbl : (xs.length : Int) = xs.length := rfl
      have hlo : lo.toNat ≤ hi.toNat := by omega
      have hhi : hi.toNat ≤ xs.length := by omega
      have hel : X.P.elem t = el := by simp [Program.elem, hu]
      have hrun : ∀ M, mxv mx cap = M → (Instr.sliceAt t (.slice (some ⟨b, base, none⟩) xs.length cap) l h' m).run X.P w =
          .ok (sliced (some ⟨b, base, none⟩) lo.toNat hi.toNat M sz) w := by
        intro M hM
        rw [run_sliceAt_slice _ _ _ _ _ _ (elem_of hu), run_slice_any _ _ _ _ _ (elem_of hu), hb xs.length cap hn rfl, hM]
        simp [hel, run_size hz]
      have fin : ∀ (M : Nat) (c' : Cap), hi.toNat ≤ M → (∀ base', (M ≠ lo.toNat → base' = base + lo.toNat * sz') → (M = lo.toNat → base' = base) → capOk g c' b base' sz' (hi.toNat - lo.toNat) (M - lo.toNat)) → Enc X.nm g w.heap (.lst ((xs.take hi.toNat).drop lo.toNat) c')
          (sliced (some ⟨b, base, none⟩) lo.toNat hi.toNat M sz) := by
        intro M c' hM hk'
        unfold sliced
        split
        · rename_i e
          have e2 : hi.toNat = lo.toNat := by omega
          have e3 : (xs.take hi.toNat).drop lo.toNat = [] := by rw [List.drop_eq_nil_iff]; simp; omega
          rw [e3, e2, Nat.sub_self]
          have := hk' base (fun h => absurd e h) (fun _ => rfl)
          rw [e2, Nat.sub_self] at this
          exact .lst (xs := []) (sz := sz') (vs := vs) (by simp) (by simp) (by simp) (by simp) this (by simp)
        · rename_i e
          have := hk' (base + lo.toNat * sz') (fun _ => rfl) (fun h => absurd h e)
          simp only [Option.map_some, Addr.add_lit, hoff]
          exact lst_sub hs hc hZ he hlo hhi this (by omega)
      cases mx with
      | none =>
        cases h
        refine ⟨_, hrun cap rfl, fin cap _ (by omega) ?_⟩
        intro base' hbase hbase'
        split
        · rename_i hall
          obtain ⟨rfl, rfl⟩ := hall
          cases c with
          | any => trivial
          | exact => simp only [capOk] at hk ⊢; omega
          | tok t' =>
            simp only [capOk, Int.toNat_zero, Nat.zero_mul, Nat.add_zero, Int.toNat_natCast, Nat.sub_zero] at hk hbase ⊢
            by_cases e : cap = 0
            · rw [hbase' (by simpa using e)]; exact hk
            · rw [hbase (by omega)]; exact hk
        · trivial
      | some m =>
        simp only at h
        split at h
        · rename_i hm
          cases h
          subst hm
          exact ⟨_, hrun _ rfl, fin _ _ (Nat.le_refl _) fun _ _ _ => by simp [capOk, mxv]⟩
        · cases h
  · cases h

theorem slc_sli {t el : TypeId} {sz : Nat} (hu : X.P.underlying t = some (.slice el)) (hz : X.size el = some sz) {l o n c : Nat} {v : Value} (hx : Enc X.nm g w.heap (.sli l o n c) v) {lo hi : Int} {mx : Option Int} {y : V}
    (h : slcM sz l o c lo hi mx = some y) {l' h' m : Option Value}
    (hb : (Instr.sliceBounds true n c l' h' m).run X.P w = .ok (lo.toNat, hi.toNat, mxv mx c) w) :
    VOk X g w (Instr.sliceAt t v l' h' m) y := by
  unfold slcM at h
  obtain ⟨b, rfl, hβ⟩ := hx.of_sli
  simp only at h
  split at h
  · rename_i hc
    cases h
    have hel : X.P.elem t = el := by simp [Program.elem, hu]
    refine ⟨sliced (some ⟨b, o, none⟩) lo.toNat hi.toNat (mxv mx c) sz, ?_, ?_⟩
    · rw [run_sliceAt_slice _ _ _ _ _ _ (elem_of hu), run_slice_any _ _ _ _ _ (elem_of hu), hb]
      simp [hel, run_size hz]
    · have e1 : (hi - lo).toNat = hi.toNat - lo.toNat := by omega
      have e2 : (mx.getD (c : Int) - lo).toNat = mxv mx c - lo.toNat := by cases mx <;> simp [mxv] <;> omega
      have e3 : (mx.getD (c : Int) = lo) ↔ (mxv mx c = lo.toNat) := by cases mx <;> simp [mxv] at hc ⊢ <;> omega
      unfold sliced
      rw [e1, e2]
      by_cases e : mxv mx c = lo.toNat
      · rw [if_pos e, if_pos (e3.2 e)]; exact .sli hβ
      · rw [if_neg e, if_neg (fun h => e (e3.1 h))]; simp only [Option.map_some, Addr.add_lit]; exact .sli hβ
  · cases h

/-- The bounds, evaluated. -/
theorem bounds_run (len cap : Nat) (lo hi mx : Option Int) (l h : Int) (hl : lo.getD 0 = l) (hh : hi.getD len = h) (hm : mx.isSome = true → hi.isSome = true) (h0 : 0 ≤ l) (h1 : l ≤ h) (h2 : h ≤ mxv mx cap) (h3 : ∀ m, mx = some m → 0 ≤ m ∧ m ≤ cap) (w : World) :
    (Instr.sliceBounds true len cap (lo.map (.int .i64)) (hi.map (.int .i64)) (mx.map (.int .i64))).run X.P w = .ok (l.toNat, h.toNat, mxv mx cap) w := by
  subst hl hh
  have e : ∀ {x : Int}, 0 ≤ x → ((x.toNat : Nat) : Int) = x := fun h => Int.toNat_of_nonneg h
  cases lo <;> cases hi <;> cases mx <;> simp [mxv] at h0 h1 h2 h3 hm ⊢ <;> simp [Instr.sliceBounds, run_sliceBound_if, *] <;> (try split) <;> first | rfl | (exfalso; omega) | omega | skip
  all_goals (rw [if_pos (by omega)])

theorem slc_inv {sz : Nat} {a b c : Bool} {x : V} {rest : List V} {y : V} (h : pv (.slc sz a b c) (x :: rest) = some y) :
    ((∃ xs k, x = .lst xs k) ∨ ∃ l o n c, x = .sli l o n c) ∧ ∀ r ∈ rest, ∃ n, r = .int n := by
  unfold pv at h
  split at h <;> first
    | (rename_i h1 h2; cases h1; done)
    | (rename_i h1; cases h1; done)
    | skip
  all_goals first
    | (exact absurd h (by simp))
    | (rename_i h1 h2; cases h1; cases h2; exact ⟨.inl ⟨_, _, rfl⟩, by simp⟩)
    | (rename_i h1 h2; cases h1; cases h2; exact ⟨.inr ⟨_, _, _, _, rfl⟩, by simp⟩)
    | skip
theorem ok_slc {t el : TypeId} {sz : Nat} (hu : X.P.underlying t = some (.slice el)) (hz : X.size el = some sz) {x : V} {lo hi mx : Option V} {v : Value} {vl vh vm : Option Value} {y : V} (hx : Enc X.nm g w.heap x v)
    (hlo : ∀ a, lo = some a → ∃ b, vl = some b ∧ Enc X.nm g w.heap a b) (hlo' : lo = none → vl = none)
    (hhi : ∀ a, hi = some a → ∃ b, vh = some b ∧ Enc X.nm g w.heap a b) (hhi' : hi = none → vh = none)
    (hmx : ∀ a, mx = some a → ∃ b, vm = some b ∧ Enc X.nm g w.heap a b) (hmx' : mx = none → vm = none)
    (h : pv (.slc sz lo.isSome hi.isSome mx.isSome) (x :: (lo.toList ++ hi.toList ++ mx.toList)) = some y) : VOk X g w (Instr.sliceAt t v vl vh vm) y := by
  have int : ∀ {a : Option V} {b : Option Value} (_ : ∀ a', a = some a' → ∃ b', b = some b' ∧ Enc X.nm g w.heap a' b') {n : Int}, a = some (.int n) → b = some (.int .i64 n) := by
    intro a b h n hn
    obtain ⟨b', h1, h2⟩ := h _ hn
    rw [h1, h2.of_int]
  have lst : ∀ {xs : List V} {c : Cap} {lo hi : Int} {mx : Option Int} (lo' hi' : Option Int), x = .lst xs c → slcV sz xs c lo hi mx = some y → lo'.getD 0 = lo → hi'.getD xs.length = hi → (mx.isSome = true → hi'.isSome = true) →
      VOk X g w (Instr.sliceAt t v (lo'.map (.int .i64)) (hi'.map (.int .i64)) (mx.map (.int .i64))) y := by
    intro xs c lo hi mx lo' hi' hxs hy hl hh hm
    subst hxs
    refine slc_lst hu hz hx hy fun len cap hlc hlen => ?_
    unfold slcV at hy
    split at hy
    · rename_i hc
      have hmi : ∀ m, mx = some m → m = hi := by
        rintro m rfl
        simp only at hy
        split at hy
        · assumption
        · cases hy
      refine bounds_run len cap lo' hi' mx lo hi hl (by rw [← hlen]; exact hh) hm hc.1 hc.2.1 ?_ ?_ w
      · cases hmx2 : mx with
        | none => simp [mxv]; omega
        | some m => have := hmi m hmx2; simp [mxv]; omega
      · rintro m rfl; have := hmi m rfl; omega
    · cases hy
  have sli : ∀ {l o n c : Nat} {lo hi : Int} {mx : Option Int} (lo' hi' : Option Int), x = .sli l o n c → slcM sz l o c lo hi mx = some y → lo'.getD 0 = lo → hi'.getD n = hi → (mx.isSome = true → hi'.isSome = true) →
      VOk X g w (Instr.sliceAt t v (lo'.map (.int .i64)) (hi'.map (.int .i64)) (mx.map (.int .i64))) y := by
    intro l o n c lo hi mx lo' hi' hxs hy hl hh hm
    subst hxs
    refine slc_sli hu hz hx hy ?_
    unfold slcM at hy
    simp only at hy
    split at hy
    · rename_i hc
      refine bounds_run n c lo' hi' mx lo hi hl hh hm hc.1 hc.2.1 ?_ ?_ w
      · cases mx <;> simp [mxv] at hc ⊢ <;> omega
      · rintro m rfl; simp at hc; omega
    · cases hy
  obtain ⟨hxk, hr⟩ := slc_inv h
  have il : ∀ a, lo = some a → ∃ n, a = .int n := fun a ha => hr a (by simp [ha])
  have ih : ∀ a, hi = some a → ∃ n, a = .int n := fun a ha => hr a (by simp [ha])
  have im : ∀ a, mx = some a → ∃ n, a = .int n := fun a ha => hr a (by simp [ha])
  cases lo with
  | none =>
    obtain rfl := hlo' rfl
    cases hi with
    | none =>
      obtain rfl := hhi' rfl
      cases mx with
      | none =>
        obtain rfl := hmx' rfl
        rcases hxk with ⟨xs, k, rfl⟩ | ⟨l, o, n, c, rfl⟩
        · exact lst none none rfl (show slcV sz xs k 0 xs.length none = some y from h) rfl rfl (by simp)
        · simp [pv] at h
      | some m =>
        obtain ⟨m, rfl⟩ := im _ rfl
        rcases hxk with ⟨xs, k, rfl⟩ | ⟨l, o, n, c, rfl⟩ <;> simp [pv] at h
    | some hv =>
      obtain ⟨hv, rfl⟩ := ih _ rfl
      cases mx with
      | none =>
        obtain rfl := hmx' rfl
        rcases hxk with ⟨xs, k, rfl⟩ | ⟨l, o, n, c, rfl⟩
        · rw [int hhi rfl]; exact lst none (some hv) rfl (show slcV sz xs k 0 hv none = some y from h) rfl rfl (by simp)
        · rw [int hhi rfl]; exact sli none (some hv) rfl (show slcM sz l o c 0 hv none = some y from h) rfl rfl (by simp)
      | some m =>
        obtain ⟨m, rfl⟩ := im _ rfl
        rcases hxk with ⟨xs, k, rfl⟩ | ⟨l, o, n, c, rfl⟩
        · rw [int hhi rfl, int hmx rfl]; exact lst none (some hv) rfl (show slcV sz xs k 0 hv (some m) = some y from h) rfl rfl (by simp)
        · simp [pv] at h
  | some lv =>
    obtain ⟨lv, rfl⟩ := il _ rfl
    cases hi with
    | none =>
      obtain rfl := hhi' rfl
      cases mx with
      | none =>
        obtain rfl := hmx' rfl
        rcases hxk with ⟨xs, k, rfl⟩ | ⟨l, o, n, c, rfl⟩
        · rw [int hlo rfl]; exact lst (some lv) none rfl (show slcV sz xs k lv xs.length none = some y from h) rfl rfl (by simp)
        · rw [int hlo rfl]; exact sli (some lv) none rfl (show slcM sz l o c lv n none = some y from h) rfl rfl (by simp)
      | some m =>
        obtain ⟨m, rfl⟩ := im _ rfl
        rcases hxk with ⟨xs, k, rfl⟩ | ⟨l, o, n, c, rfl⟩ <;> simp [pv] at h
    | some hv =>
      obtain ⟨hv, rfl⟩ := ih _ rfl
      cases mx with
      | none =>
        obtain rfl := hmx' rfl
        rcases hxk with ⟨xs, k, rfl⟩ | ⟨l, o, n, c, rfl⟩
        · rw [int hlo rfl, int hhi rfl]; exact lst (some lv) (some hv) rfl (show slcV sz xs k lv hv none = some y from h) rfl rfl (by simp)
        · rw [int hlo rfl, int hhi rfl]; exact sli (some lv) (some hv) rfl (show slcM sz l o c lv hv none = some y from h) rfl rfl (by simp)
      | some m =>
        obtain ⟨m, rfl⟩ := im _ rfl
        rcases hxk with ⟨xs, k, rfl⟩ | ⟨l, o, n, c, rfl⟩
        · rw [int hlo rfl, int hhi rfl, int hmx rfl]; exact lst (some lv) (some hv) rfl (show slcV sz xs k lv hv (some m) = some y from h) rfl rfl (by simp)
        · rw [int hlo rfl, int hhi rfl, int hmx rfl]; exact sli (some lv) (some hv) rfl (show slcM sz l o c lv hv (some m) = some y from h) rfl rfl (by simp)

theorem ok_not {x y : V} {v : Value} (hx : Enc X.nm g w.heap x v) (h : pv .not [x] = some y) : VOk X g w (Op.unary .not v) y := by
  cases x <;> simp only [pv, reduceCtorEq, Option.some.injEq] at h
  subst h
  obtain rfl := hx.of_bool
  exact ⟨_, rfl, .bool _⟩
theorem ok_neg {x y : V} {v : Value} (hx : Enc X.nm g w.heap x v) (h : pv .neg [x] = some y) : VOk X g w (Op.unary .neg v) y := by
  cases x <;> simp only [pv, reduceCtorEq, Option.some.injEq] at h
  subst h
  obtain rfl := hx.of_int
  exact ⟨.int .i64 (w64 (0 - _)), by simp [Op.unary, Op.intArith, w64_eq], .int _⟩
theorem ok_pick {c a b y : V} {vc va vb : Value} (hc : Enc X.nm g w.heap c vc) (ha : Enc X.nm g w.heap a va) (hb : Enc X.nm g w.heap b vb) (h : pv .pick [c, a, b] = some y) :
    ∃ v, (do pure (Next.value (if ← asBool vc then va else vb)) : Sem Next).run X.P w = .ok (.value v) w ∧ Enc X.nm g w.heap y v := by
  cases c <;> simp only [pv, reduceCtorEq, Option.some.injEq] at h
  rename_i q
  subst h
  obtain rfl := hc.of_bool
  refine ⟨if q then va else vb, by simp [asBool], ?_⟩
  cases q <;> simpa
end
end Go.Hu

set_option linter.unusedSimpArgs false
set_option linter.unusedVariables false
namespace Go.Hu
section
variable {X : Ctx} {g : Gh} {w : World}

def cellEq : V → V → Option Bool
  | .int a, .int b => some (a == b)
  | .bool a, .bool b => some (a == b)
  | _, _ => none
theorem eqCells_cons (x y : V) (xs ys : List V) : eqCells (x :: xs) (y :: ys) = (cellEq x y).bind fun q => (eqCells xs ys).map (q && ·) := by
  cases x <;> first | rfl | (cases y <;> rfl)
theorem eqCells_nil_cons (y : V) (ys : List V) : eqCells [] (y :: ys) = none := rfl
theorem eqCells_cons_nil (x : V) (xs : List V) : eqCells (x :: xs) [] = none := by cases x <;> rfl
theorem eqCells_len : ∀ {a b : List V} {r : Bool}, eqCells a b = some r → a.length = b.length
  | [], [], _, _ => rfl
  | x :: xs, y :: ys, r, h => by
    rw [eqCells_cons] at h
    simp only [Option.bind_eq_some_iff, Option.map_eq_some_iff] at h
    obtain ⟨q, _, r', h2, _⟩ := h
    simp [eqCells_len h2]
  | [], _ :: _, _, h => by simp [eqCells_nil_cons] at h
  | x :: _, [], _, h => by simp [eqCells_cons_nil] at h
theorem eqCells_append : ∀ {a b c d : List V} {r : Bool}, a.length = b.length → eqCells (a ++ c) (b ++ d) = some r → ∃ p q, eqCells a b = some p ∧ eqCells c d = some q ∧ r = (p && q)
  | [], [], c, d, r, _, h => ⟨true, r, rfl, h, by simp⟩
  | x :: xs, y :: ys, c, d, r, hl, h => by
    simp only [List.cons_append, eqCells_cons, Option.bind_eq_some_iff, Option.map_eq_some_iff] at h
    obtain ⟨q, hq, r', h2, rfl⟩ := h
    obtain ⟨p', q', h3, h4, rfl⟩ := eqCells_append (a := xs) (b := ys) (by simpa using hl) h2
    exact ⟨q && p', q', by simp [eqCells_cons, hq, h3], h4, by simp [Bool.and_assoc]⟩
  | [], _ :: _, _, _, _, hl, _ => by simp at hl
  | _ :: _, [], _, _, _, hl, _ => by simp at hl

/-- Values' equality is that of their cells. -/
theorem eqV_cells {x y : V} {r : Bool} (h : eqV x y = some r) : eqCells x.cells y.cells = some r := by
  cases x <;> first | (simp [eqV] at h; done) | skip
  all_goals (cases y <;> first | (simp [eqV] at h; done) | skip)
  · simpa [eqV, V.cells, eqCells] using h
  · simpa [eqV, V.cells, eqCells] using h
  · exact h
theorem eqCells_takeAt {sh : Sh} {xs ys : List V} {o : Nat} {x y : V} {r : Bool} (hx : takeAt sh xs o = some x) (hy : takeAt sh ys o = some y) (h : eqCells ((xs.drop o).take (shN sh)) ((ys.drop o).take (shN sh)) = some r) :
    eqV x y = some r ∧ x.cells.length = shN sh := by
  cases sh with
  | none =>
    simp only [takeAt] at hx hy
    have e : ∀ {l : List V} {z : V}, l[o]? = some z → (l.drop o).take 1 = [z] := by
      intro l z hz
      have hlt := (List.getElem?_eq_some_iff.1 hz).1
      rw [List.drop_eq_getElem_cons hlt]
      simp only [List.take_succ_cons, List.take_zero]
      rw [(List.getElem?_eq_some_iff.1 hz).2]
    simp only [shN, e hx, e hy, eqCells_cons, Option.bind_eq_some_iff, Option.map_eq_some_iff] at h
    obtain ⟨q, hq, r', h2, rfl⟩ := h
    obtain rfl : true = r' := by simpa [eqCells] using h2
    cases x <;> first | (simp [cellEq] at hq; done) | skip
    all_goals (cases y <;> first | (simp [cellEq] at hq; done) | skip)
    · simp only [cellEq, Option.some.injEq] at hq; subst hq; exact ⟨by simp [eqV], rfl⟩
    · simp only [cellEq, Option.some.injEq] at hq; subst hq; exact ⟨by simp [eqV], rfl⟩
  | some n =>
    simp only [takeAt] at hx hy
    split at hx <;> cases hx
    split at hy <;> cases hy
    exact ⟨h, by simp [V.cells, shN]; omega⟩
theorem takeAt_some' {sh : Sh} {xs : List V} {o : Nat} (hp : 0 < shN sh) (h : o + shN sh ≤ xs.length) : ∃ x, takeAt sh xs o = some x := by
  cases sh with
  | none => simp only [takeAt]; simp [shN] at h; exact ⟨xs[o], by simp⟩
  | some n => simp only [takeAt]; simp [shN] at h; exact ⟨_, if_pos h⟩

theorem drop_split (xs : List V) (o n : Nat) : xs.drop o = (xs.drop o).take n ++ xs.drop (o + n) := by
  rw [← List.drop_drop, List.take_append_drop]

theorem kindsOk_len : ∀ {ks : List Bool} {xs : List V}, kindsOk ks xs = true → xs.length = ks.length
  | [], [], _ => rfl
  | true :: ks, x :: xs, h => by cases x <;> simp [kindsOk] at h; simp [kindsOk_len h]
  | false :: ks, x :: xs, h => by cases x <;> simp [kindsOk] at h; simp [kindsOk_len h]
  | [], _ :: _, h => by simp [kindsOk] at h
  | true :: _, [], h => by simp [kindsOk] at h
  | false :: _, [], h => by simp [kindsOk] at h
theorem kindsOk_append : ∀ {a b : List Bool} {xs : List V}, kindsOk (a ++ b) xs = true → kindsOk a (xs.take a.length) = true ∧ kindsOk b (xs.drop a.length) = true
  | [], b, xs, h => by simpa [kindsOk] using h
  | true :: a, b, x :: xs, h => by cases x <;> simp [kindsOk] at h; simpa [kindsOk] using kindsOk_append h
  | false :: a, b, x :: xs, h => by cases x <;> simp [kindsOk] at h; simpa [kindsOk] using kindsOk_append h
  | true :: _, _, [], h => by simp [kindsOk] at h
  | false :: _, _, [], h => by simp [kindsOk] at h
theorem kinds_row : ∀ {d : Nat} {t : TypeId} {k : Kd}, X.kinds d t = some k → ∃ desc, X.P.underlying t = some desc ∧ desc.row = (match k with | .row _ => true | _ => false)
  | 0, t, k, h => by simp [Ctx.kinds] at h
  | d + 1, t, k, h => by
    unfold Ctx.kinds at h
    split at h
    · rename_i hu; cases h; exact ⟨_, hu, rfl⟩
    · rename_i hu; cases h; exact ⟨_, hu, rfl⟩
    · rename_i fs hu
      split at h
      · cases h
      · obtain ⟨ks, _, rfl⟩ := Option.map_eq_some_iff.1 h
        exact ⟨_, hu, rfl⟩
    · rename_i n el hu
      obtain ⟨k', _, h⟩ := Option.bind_eq_some_iff.1 h
      split at h
      · cases h; exact ⟨_, hu, rfl⟩
      · cases h
    · cases h
/-- A part with cells of such kinds is a value of such a kind. -/
theorem kindOk_takeAt {d : Nat} {t : TypeId} {k : Kd} {sh : Sh} {xs : List V} {o : Nat} {x : V} (hk : X.kinds d t = some k) (hs : X.sh t = some sh) (hx : takeAt sh xs o = some x) (h : kindsOk k.cells ((xs.drop o).take (shN sh)) = true) : kindOk k x = true := by
  obtain ⟨d1, hu1, hr1⟩ := kinds_row hk
  obtain ⟨d2, hu2, _, _, hr2⟩ := sh_parts hs
  obtain rfl := Option.some.inj (hu1.symm.trans hu2)
  rw [hr1] at hr2
  cases sh with
  | none =>
    simp only [takeAt] at hx
    have hlt := (List.getElem?_eq_some_iff.1 hx).1
    have e : (xs.drop o).take 1 = [x] := by
      rw [List.drop_eq_getElem_cons hlt]
      simp only [List.take_succ_cons, List.take_zero]
      rw [(List.getElem?_eq_some_iff.1 hx).2]
    simp only [shN, e] at h
    cases k <;> simp at hr2
    · cases x <;> simp [Kd.cells, kindsOk] at h; rfl
    · cases x <;> simp [Kd.cells, kindsOk] at h; rfl
  | some n =>
    simp only [takeAt] at hx
    split at hx <;> cases hx
    cases k <;> simp at hr2
    exact h

/-- What a type's equality comes to. -/
def EqAt (X : Ctx) (t : TypeId) (k : Kd) (D : Nat) : Prop := ∀ (g : Gh) (w : World) (x y : V) (vx vy : Value) (r : Bool), Enc X.nm g w.heap x vx → Enc X.nm g w.heap y vy → kindOk k x = true → eqV x y = some r → (Op.equalIn D t vx vy).run X.P w = .ok r w

theorem eqFields_run {d D : Nat} {xs ys : List V} {c e : Array Value} (hq : ∀ t k, X.kinds d t = some k → EqAt X t k D) (hx : EncL X.nm g w.heap xs c) (hy : EncL X.nm g w.heap ys e) : ∀ (fs : List Field) (o : Nat) (ks : List Bool) (r : Bool),
    X.kindsF (X.kinds d) o fs = some ks → kindsOk ks (xs.drop o) = true → eqCells (xs.drop o) (ys.drop o) = some r → (Op.eqFields D c e fs).run X.P w = .ok r w
  | [], o, ks, r, ht, h1, he => by
    simp only [Ctx.kindsF, Option.some.injEq] at ht
    subst ht
    have h2 := kindsOk_len h1
    have e0 : xs.drop o = [] := List.eq_nil_of_length_eq_zero h2
    have e1 : ys.drop o = [] := List.eq_nil_of_length_eq_zero (by rw [← eqCells_len he, h2]; rfl)
    rw [e0, e1] at he
    obtain rfl : true = r := by simpa [eqCells] using he
    rfl
  | f :: fs, o, ks, r, ht, h1, he => by
    simp only [Ctx.kindsF] at ht
    split at ht
    · rename_i hof
      obtain ⟨k, hk, ht⟩ := Option.bind_eq_some_iff.1 ht
      split at ht
      · rename_i hsh
        obtain ⟨ks', hks, rfl⟩ := Option.map_eq_some_iff.1 ht
        obtain ⟨sh, hsh, hl⟩ := Option.map_eq_some_iff.1 hsh
        obtain ⟨_, _, hsz, hp, _⟩ := sh_parts hsh
        obtain ⟨k1, k2⟩ := kindsOk_append h1
        have hlx : k.cells.length + ks'.length = (xs.drop o).length := by rw [kindsOk_len h1, List.length_append]
        have hlxy := eqCells_len he
        simp only [List.length_drop] at hlx hlxy
        rw [drop_split xs o (shN sh), drop_split ys o (shN sh)] at he
        obtain ⟨p, q, e1, e2, rfl⟩ := eqCells_append (by simp; omega) he
        obtain ⟨x, ex⟩ := takeAt_some' (sh := sh) (xs := xs) (o := o) hp (by omega)
        obtain ⟨y, ey⟩ := takeAt_some' (sh := sh) (xs := ys) (o := o) hp (by omega)
        obtain ⟨vx, rx, nx⟩ := part_any hsh hx ex
        obtain ⟨vy, ry, ny⟩ := part_any hsh hy ey
        obtain ⟨ev, el⟩ := eqCells_takeAt ex ey e1
        have hr := hq f.type k hk g w x y vx vy p nx ny (kindOk_takeAt hk hsh ex (by rw [hl]; exact k1)) ev
        have ih := eqFields_run hq hx hy fs (o + k.cells.length) ks' q hks (by rw [← List.drop_drop]; exact k2) (by rw [← hl]; exact e2)
        simp only [Op.eqFields, hof.2, ne_eq, not_false_eq_true, if_true, Sem.run_bind, hof.1, rx, ry, hr, Result.andThen_ok]
        cases p
        · simp
        · simpa using ih
      · cases ht
    · cases ht

theorem eqItems_run {D : Nat} {d : Nat} {t : TypeId} {k : Kd} {sh : Sh} {xs ys : List V} {c e : Array Value} (hq : EqAt X t k D) (hk : X.kinds d t = some k) (hsh : X.sh t = some sh) (hl : shN sh = k.cells.length)
    (hx : EncL X.nm g w.heap xs c) (hy : EncL X.nm g w.heap ys e) : ∀ (m i : Nat) (r : Bool),
    kindsOk (List.replicate m k.cells).flatten (xs.drop (i * shN sh)) = true → eqCells (xs.drop (i * shN sh)) (ys.drop (i * shN sh)) = some r → (Op.eqItems D t (shN sh) c e (List.range' i m)).run X.P w = .ok r w
  | 0, i, r, h1, he => by
    have h2 := kindsOk_len h1
    simp only [List.replicate_zero, List.flatten_nil, List.length_nil] at h2
    have e0 : xs.drop (i * shN sh) = [] := List.eq_nil_of_length_eq_zero h2
    have e1 : ys.drop (i * shN sh) = [] := List.eq_nil_of_length_eq_zero (by rw [← eqCells_len he, h2])
    rw [e0, e1] at he
    obtain rfl : true = r := by simpa [eqCells] using he
    rfl
  | m + 1, i, r, h1, he => by
    obtain ⟨_, _, hsz, hp, _⟩ := sh_parts hsh
    rw [List.replicate_succ, List.flatten_cons] at h1
    obtain ⟨k1, k2⟩ := kindsOk_append h1
    have hlx : k.cells.length + (List.replicate m k.cells).flatten.length = (xs.drop (i * shN sh)).length := by rw [kindsOk_len h1, List.length_append]
    have hlxy := eqCells_len he
    simp only [List.length_drop] at hlx hlxy
    rw [drop_split xs _ (shN sh), drop_split ys _ (shN sh)] at he
    obtain ⟨p, q, e1, e2, rfl⟩ := eqCells_append (by simp; omega) he
    obtain ⟨x, ex⟩ := takeAt_some' (sh := sh) (xs := xs) (o := i * shN sh) hp (by omega)
    obtain ⟨y, ey⟩ := takeAt_some' (sh := sh) (xs := ys) (o := i * shN sh) hp (by omega)
    obtain ⟨vx, rx, nx⟩ := part_any hsh hx ex
    obtain ⟨vy, ry, ny⟩ := part_any hsh hy ey
    obtain ⟨ev, el⟩ := eqCells_takeAt ex ey e1
    have hr := hq g w x y vx vy p nx ny (kindOk_takeAt hk hsh ex (by rw [← hl] at k1; exact k1)) ev
    have ih := eqItems_run hq hk hsh hl hx hy m (i + 1) q (by rw [Nat.succ_mul, ← List.drop_drop, hl]; rw [hl] at k2; exact k2) (by rw [Nat.succ_mul]; exact e2)
    simp only [List.range'_succ, Op.eqItems, Sem.run_bind, rx, ry, hr, Result.andThen_ok]
    cases p
    · simp
    · simpa using ih

theorem info_of_size {t : TypeId} {n : Nat} (h : X.size t = some n) : ∃ i, X.P.info? t = some i ∧ i.size = n := by
  unfold Ctx.size at h
  obtain ⟨i, hi, rfl⟩ := Option.map_eq_some_iff.1 h
  exact ⟨i, hi, rfl⟩
theorem cellsOf_size {t : TypeId} {n : Nat} (h : X.size t = some n) : X.P.cellsOf t = n := by
  obtain ⟨i, hi, rfl⟩ := info_of_size h
  simp [Program.cellsOf, hi]

theorem equal_run : ∀ (d : Nat) (t : TypeId) (k : Kd), X.kinds d t = some k → ∀ D, EqAt X t k (D + d)
  | 0, t, k, h, _ => by simp [Ctx.kinds] at h
  | d + 1, t, k, h, D => by
    intro g w x y vx vy r hx hy hk he
    unfold Ctx.kinds at h
    split at h
    · rename_i hu
      cases h
      cases x <;> simp only [kindOk, reduceCtorEq, Bool.false_eq_true] at hk
      cases y <;> simp only [eqV, reduceCtorEq, Option.some.injEq] at he
      obtain rfl := hx.of_bool
      obtain rfl := hy.of_bool
      subst he
      exact run_equalIn_bool w (D + d) t _ _ hu
    · rename_i hu
      cases h
      cases x <;> simp only [kindOk, reduceCtorEq, Bool.false_eq_true] at hk
      cases y <;> simp only [eqV, reduceCtorEq, Option.some.injEq] at he
      obtain rfl := hx.of_int
      obtain rfl := hy.of_int
      subst he
      exact run_equalIn_int w (D + d) t _ _ _ _ hu
    · rename_i fs hu
      split at h
      · cases h
      · rename_i hst
        obtain ⟨ks, hks, rfl⟩ := Option.map_eq_some_iff.1 h
        cases x <;> simp only [kindOk, reduceCtorEq, Bool.false_eq_true] at hk
        cases y <;> simp only [eqV, reduceCtorEq] at he
        obtain ⟨c, rfl, hc⟩ := hx.of_agg
        obtain ⟨e, rfl, he'⟩ := hy.of_agg
        have hf : X.P.fieldsOf t = fs := by simp [Program.fieldsOf, hu]
        rw [show D + (d + 1) = (D + d) + 1 from rfl, run_equalIn_struct w (D + d) t c e (by rw [hf]; exact hu) (by simpa using hst), hf]
        exact eqFields_run (fun t k hk => equal_run d t k hk D) hc he' _ 0 ks r hks (by simpa using hk) (by simpa using he)
    · rename_i n el hu
      obtain ⟨k', hk', h⟩ := Option.bind_eq_some_iff.1 h
      split at h
      · rename_i hsh
        cases h
        obtain ⟨sh, hsh, hl⟩ := Option.map_eq_some_iff.1 hsh
        obtain ⟨_, _, hsz, hp, _⟩ := sh_parts hsh
        obtain ⟨i, hi, hsi⟩ := info_of_size hsz
        cases x <;> simp only [kindOk, reduceCtorEq, Bool.false_eq_true] at hk
        cases y <;> simp only [eqV, reduceCtorEq] at he
        obtain ⟨c, rfl, hc⟩ := hx.of_agg
        obtain ⟨e, rfl, he'⟩ := hy.of_agg
        rw [show D + (d + 1) = (D + d) + 1 from rfl, run_equalIn_array w (D + d) c e hu hi, cellsOf_size hsz, List.range_eq_range']
        exact eqItems_run (equal_run d el k' hk' D) hk' hsh hl hc he' n 0 r (by simpa using hk) (by simpa using he)
      · cases h
    · cases h

/-! ## Keys -/
def CkAt (X : Ctx) (t : TypeId) (k : Kd) (D : Nat) : Prop := ∀ (em : Bool) (g : Gh) (w : World) (x : V) (vx : Value), Enc X.nm g w.heap x vx → kindOk k x = true → (Instr.checkKey em D t vx).run X.P w = .ok () w

theorem forIn_ok {P : Program} {α : Type} : ∀ {l : List α} {f : α → PUnit → Sem (ForInStep PUnit)} (_ : ∀ x ∈ l, (f x ⟨⟩).run P w = .ok (.yield ⟨⟩) w), (forIn l (⟨⟩ : PUnit) f : Sem PUnit).run P w = .ok ⟨⟩ w
  | [], _, _ => by simp
  | x :: l, f, h => by
    simp only [List.forIn_cons, Sem.run_bind, h x (by simp), Result.andThen_ok]
    exact forIn_ok fun y hy => h y (by simp [hy])

theorem fields_at {d : Nat} {xs : List V} : ∀ (fs : List Field) (o : Nat) (ks : List Bool), X.kindsF (X.kinds d) o fs = some ks → kindsOk ks (xs.drop o) = true →
    ∀ f ∈ fs, f.name ≠ "_" ∧ ∃ k sh x, X.kinds d f.type = some k ∧ X.sh f.type = some sh ∧ takeAt sh xs f.offset = some x ∧ kindOk k x = true
  | [], _, _, _, _, f, hf => by simp at hf
  | f :: fs, o, ks, ht, h1, f', hf' => by
    simp only [Ctx.kindsF] at ht
    split at ht
    · rename_i hof
      obtain ⟨k, hk, ht⟩ := Option.bind_eq_some_iff.1 ht
      split at ht
      · rename_i hsh
        obtain ⟨ks', hks, rfl⟩ := Option.map_eq_some_iff.1 ht
        obtain ⟨sh, hsh, hl⟩ := Option.map_eq_some_iff.1 hsh
        obtain ⟨_, _, hsz, hp, _⟩ := sh_parts hsh
        obtain ⟨k1, k2⟩ := kindsOk_append h1
        have hlx : k.cells.length + ks'.length = (xs.drop o).length := by rw [kindsOk_len h1, List.length_append]
        simp only [List.length_drop] at hlx
        rcases List.mem_cons.1 hf' with rfl | hm
        · obtain ⟨x, ex⟩ := takeAt_some' (sh := sh) (xs := xs) (o := o) hp (by omega)
          exact ⟨hof.2, k, sh, x, hk, hsh, by rw [hof.1]; exact ex, kindOk_takeAt hk hsh ex (by rw [hl]; exact k1)⟩
        · exact fields_at fs _ ks' hks (by rw [← List.drop_drop]; exact k2) f' hm
      · cases ht
    · cases ht
theorem items_at {d : Nat} {t : TypeId} {k : Kd} {sh : Sh} {xs : List V} (hk : X.kinds d t = some k) (hsh : X.sh t = some sh) (hl : shN sh = k.cells.length) : ∀ (m i : Nat),
    kindsOk (List.replicate m k.cells).flatten (xs.drop (i * shN sh)) = true → ∀ j, i ≤ j → j < i + m → ∃ x, takeAt sh xs (j * shN sh) = some x ∧ kindOk k x = true
  | 0, _, _, j, h1, h2 => by omega
  | m + 1, i, h, j, h1, h2 => by
    obtain ⟨_, _, hsz, hp, _⟩ := sh_parts hsh
    rw [List.replicate_succ, List.flatten_cons] at h
    obtain ⟨k1, k2⟩ := kindsOk_append h
    have hlx : k.cells.length + (List.replicate m k.cells).flatten.length = (xs.drop (i * shN sh)).length := by rw [kindsOk_len h, List.length_append]
    simp only [List.length_drop] at hlx
    by_cases e : j = i
    · subst e
      obtain ⟨x, ex⟩ := takeAt_some' (sh := sh) (xs := xs) (o := j * shN sh) hp (by omega)
      exact ⟨x, ex, kindOk_takeAt hk hsh ex (by rw [← hl] at k1; exact k1)⟩
    · exact items_at hk hsh hl m (i + 1) (by rw [Nat.succ_mul, ← List.drop_drop, hl]; rw [hl] at k2; exact k2) j (by omega) (by omega)

theorem checkKey_run : ∀ (d : Nat) (t : TypeId) (k : Kd), X.kinds d t = some k → ∀ D, CkAt X t k (D + d)
  | 0, t, k, h, _ => by simp [Ctx.kinds] at h
  | d + 1, t, k, h, D => by
    intro em g w x vx hx hk
    unfold Ctx.kinds at h
    split at h
    · rename_i hu
      cases h
      cases x <;> simp only [kindOk, reduceCtorEq, Bool.false_eq_true] at hk
      obtain rfl := hx.of_bool
      simp [Instr.checkKey, run_underlying hu]
    · rename_i hu
      cases h
      cases x <;> simp only [kindOk, reduceCtorEq, Bool.false_eq_true] at hk
      obtain rfl := hx.of_int
      simp [Instr.checkKey, run_underlying hu]
    · rename_i fs hu
      split at h
      · cases h
      · rename_i hst
        obtain ⟨ks, hks, rfl⟩ := Option.map_eq_some_iff.1 h
        cases x <;> simp only [kindOk, reduceCtorEq, Bool.false_eq_true] at hk
        obtain ⟨c, rfl, hc⟩ := hx.of_agg
        rw [show D + (d + 1) = (D + d) + 1 from rfl, Instr.checkKey]
        simp only [Sem.run_bind, run_underlying hu, Result.andThen_ok]
        rw [← Array.forIn_toList, forIn_ok]
        · rfl
        · intro f hf
          obtain ⟨hn, k, sh, x, h1, h2, h3, h4⟩ := fields_at fs.toList 0 ks hks (by simpa using hk) f hf
          obtain ⟨v, hv, he⟩ := part_any h2 hc h3
          simp [hn, hv, checkKey_run d f.type k h1 D em g w x v he h4]
    · rename_i n el hu
      obtain ⟨k', hk', h⟩ := Option.bind_eq_some_iff.1 h
      split at h
      · rename_i hsh
        cases h
        obtain ⟨sh, hsh, hl⟩ := Option.map_eq_some_iff.1 hsh
        obtain ⟨_, _, hsz, hp, _⟩ := sh_parts hsh
        cases x <;> simp only [kindOk, reduceCtorEq, Bool.false_eq_true] at hk
        obtain ⟨c, rfl, hc⟩ := hx.of_agg
        rw [show D + (d + 1) = (D + d) + 1 from rfl, Instr.checkKey]
        simp only [Sem.run_bind, run_underlying hu, Result.andThen_ok, Std.Legacy.Range.forIn_eq_forIn_range', Std.Legacy.Range.size, Nat.sub_zero, Nat.add_one_sub_one, Nat.div_one]
        rw [forIn_ok]
        · rfl
        · intro j hj
          obtain ⟨x, h3, h4⟩ := items_at hk' hsh hl n 0 (by simpa using hk) j (by omega) (by simp [List.mem_range'] at hj; omega)
          obtain ⟨v, hv, he⟩ := part_any hsh hc h3
          simp [run_size hsz, hv, checkKey_run d el k' hk' D em g w x v he h4]
      · cases h
    · cases h

def Found (ents : List MapEntry) (i : Nat) : Option Nat → Option (Nat × Value) → Prop
  | none, none => True
  | some j, some (j', v) => j' = i + j ∧ (ents[j]?).map (·.val) = some v
  | _, _ => False
theorem Found.succ {en : MapEntry} {ents : List MapEntry} {i : Nat} {r : Option Nat} {q : Option (Nat × Value)} (h : Found ents (i + 1) r q) : Found (en :: ents) i (r.map (· + 1)) q := by
  cases r <;> cases q <;> simp [Found] at h ⊢
  exact ⟨by omega, h.2⟩
theorem kinds_desc {d : Nat} {t : TypeId} {k : Kd} (h : X.kinds d t = some k) : ∃ desc, X.P.underlying t = some desc ∧ (k = .num → desc = .int .i64) ∧ (k = .tru → desc = .bool) := by
  cases d with
  | zero => simp [Ctx.kinds] at h
  | succ d =>
    unfold Ctx.kinds at h
    split at h
    · rename_i hu; cases h; exact ⟨_, hu, by simp, by simp⟩
    · rename_i hu; cases h; exact ⟨_, hu, by simp, by simp⟩
    · rename_i fs hu
      split at h
      · cases h
      · obtain ⟨ks, _, rfl⟩ := Option.map_eq_some_iff.1 h
        exact ⟨_, hu, by simp, by simp⟩
    · rename_i n el hu
      obtain ⟨k', _, h⟩ := Option.bind_eq_some_iff.1 h
      split at h
      · cases h; exact ⟨_, hu, by simp, by simp⟩
      · cases h
    · cases h
/-- Which entry has a key: as the pure entries tell. -/
theorem findAsking_run {d : Nat} {t : TypeId} {k : Kd} (hd : d ≤ 10000) (hk : X.kinds d t = some k) {x : V} {vx : Value} (hx : Enc X.nm g w.heap x vx) (hkx : kindOk k x = true) : ∀ (es : List (V × V)) (ents : List MapEntry) (i : Nat) (r : Option Nat),
    ents.length = es.length → (∀ (j : Nat) y en, es[j]? = some y → ents[j]? = some en → Enc X.nm g w.heap y.1 en.key) → findK x es = some r →
    ∃ q, (Instr.findAsking t vx ents i).run X.P w = .ok q w ∧ Found ents i r q
  | [], [], i, r, _, _, h => by simp only [findK, Option.some.injEq] at h; subst h; exact ⟨none, rfl, trivial⟩
  | (y, z) :: es, en :: ents, i, r, hl, he, h => by
    have hy := he 0 (y, z) en (by simp) (by simp)
    have eq := fun b (hb : eqV x y = some b) => (show (Op.equal t vx en.key).run X.P w = .ok b w by
      have := equal_run d t k hk (10000 - d) g w x y vx en.key b hx hy hkx hb
      rw [Nat.sub_add_cancel hd] at this
      exact this)
    simp only [findK] at h
    split at h
    · rename_i hb
      cases h
      exact ⟨some (i, en.val), by simp [Instr.findAsking, eq true hb], rfl, rfl⟩
    · rename_i hb
      obtain ⟨r', hr', rfl⟩ := Option.map_eq_some_iff.1 h
      obtain ⟨q, hq, hm⟩ := findAsking_run hd hk hx hkx es ents (i + 1) r' (by simpa using hl) (fun j y en h1 h2 => he (j + 1) y en (by simpa using h1) (by simpa using h2)) hr'
      exact ⟨q, by simp [Instr.findAsking, eq false hb, hq], hm.succ⟩
    · cases h
  | [], _ :: _, _, _, hl, _, _ => by simp at hl
  | _ :: _, [], _, _, hl, _, _ => by simp at hl

theorem findNow_run {kd : TypeDesc} {x : V} {vx : Value} (hx : Enc X.nm g w.heap x vx) (hkd : (kd = .bool ∧ kindOk .tru x = true) ∨ (kd = .int .i64 ∧ kindOk .num x = true)) : ∀ (es : List (V × V)) (ents : List MapEntry) (i : Nat) (r : Option Nat),
    ents.length = es.length → (∀ (j : Nat) y en, es[j]? = some y → ents[j]? = some en → Enc X.nm g w.heap y.1 en.key) → findK x es = some r →
    ∃ q, Instr.findNow kd vx ents i = some q ∧ Found ents i r q
  | [], [], i, r, _, _, h => by simp only [findK, Option.some.injEq] at h; subst h; exact ⟨none, rfl, trivial⟩
  | (y, z) :: es, en :: ents, i, r, hl, he, h => by
    have hy := he 0 (y, z) en (by simp) (by simp)
    have eq : ∀ b, eqV x y = some b → Instr.sameNow kd vx en.key = some b := by
      intro b hb
      rcases hkd with ⟨rfl, hkx⟩ | ⟨rfl, hkx⟩
      · cases x <;> simp only [kindOk, reduceCtorEq, Bool.false_eq_true] at hkx
        cases y <;> simp only [eqV, reduceCtorEq, Option.some.injEq] at hb
        rw [hx.of_bool, hy.of_bool, ← hb]
        rfl
      · cases x <;> simp only [kindOk, reduceCtorEq, Bool.false_eq_true] at hkx
        cases y <;> simp only [eqV, reduceCtorEq, Option.some.injEq] at hb
        rw [hx.of_int, hy.of_int, ← hb]
        simp [Instr.sameNow]
    simp only [findK] at h
    split at h
    · rename_i hb
      cases h
      exact ⟨some (i, en.val), by simp [Instr.findNow, eq true hb], rfl, rfl⟩
    · rename_i hb
      obtain ⟨r', hr', rfl⟩ := Option.map_eq_some_iff.1 h
      obtain ⟨q, hq, hm⟩ := findNow_run hx hkd es ents (i + 1) r' (by simpa using hl) (fun j y en h1 h2 => he (j + 1) y en (by simpa using h1) (by simpa using h2)) hr'
      exact ⟨q, by simp [Instr.findNow, eq false hb, hq], hm.succ⟩
    · cases h
  | [], _ :: _, _, _, hl, _, _ => by simp at hl
  | _ :: _, [], _, _, hl, _, _ => by simp at hl

theorem findKey_run {d : Nat} {t : TypeId} {k : Kd} (hd : d ≤ 10000) (hk : X.kinds d t = some k) {x : V} {vx : Value} (hx : Enc X.nm g w.heap x vx) (hkx : kindOk k x = true) (es : List (V × V)) (ents : List MapEntry) (r : Option Nat)
    (hl : ents.length = es.length) (he : ∀ (j : Nat) y en, es[j]? = some y → ents[j]? = some en → Enc X.nm g w.heap y.1 en.key) (h : findK x es = some r) :
    ∃ q, (Instr.findKey t vx ents).run X.P w = .ok q w ∧ Found ents 0 r q := by
  have now : ∀ kd, X.P.underlying t = some kd → ((kd = .bool ∧ kindOk .tru x = true) ∨ (kd = .int .i64 ∧ kindOk .num x = true)) →
      ∃ q, (Instr.findKey t vx ents).run X.P w = .ok q w ∧ Found ents 0 r q := by
    intro kd hu hkd
    obtain ⟨q, hq, hm⟩ := findNow_run hx hkd es ents 0 r hl he h
    exact ⟨q, by simp [Instr.findKey, run_underlying hu, hq], hm⟩
  have asking : ∀ kd, X.P.underlying t = some kd → kd.row = true →
      ∃ q, (Instr.findKey t vx ents).run X.P w = .ok q w ∧ Found ents 0 r q := by
    intro kd hu hrow
    cases ents with
    | nil =>
      cases es with
      | nil => simp only [findK, Option.some.injEq] at h; subst h; exact ⟨none, by simp [Instr.findKey, run_underlying hu, Instr.findNow], trivial⟩
      | cons => simp at hl
    | cons en ents =>
      obtain ⟨q, hq, hm⟩ := findAsking_run hd hk hx hkx es (en :: ents) 0 r hl he h
      refine ⟨q, ?_, hm⟩
      have : Instr.sameNow kd vx en.key = none := by cases kd <;> simp [TypeDesc.row] at hrow <;> simp [Instr.sameNow]
      simp [Instr.findKey, run_underlying hu, Instr.findNow, this, hq]
  obtain ⟨kd, hu, hrow⟩ := kinds_row hk
  obtain ⟨kd', hu', hn, ht⟩ := kinds_desc hk
  obtain rfl := Option.some.inj (hu.symm.trans hu')
  cases k with
  | num => exact now kd hu (.inr ⟨hn rfl, hkx⟩)
  | tru => exact now kd hu (.inl ⟨ht rfl, hkx⟩)
  | row ks => exact asking kd hu hrow
end
end Go.Hu

set_option linter.unusedSimpArgs false
set_option linter.unusedVariables false
namespace Go.Hu

def Acc (wr : Nat → Bool) (kept mine : Nat → Prop) (t b : Nat) : Prop := if wr t = true then mine b else kept b

/-- A slot that alone leads to a block. -/
def Own (h : Hint) (wr : Nat → Bool) (e : Env) (at_ : AT) (t : Nat) : Prop :=
  (h.prom.contains t = true ∧ wr t = true ∧ e t ≠ .undef) ∨ ((t, none) ∈ at_ ∧ ∃ n, e t = .pend n)

def DefOk (df : List Deferred) (H : Heap) (mine : Nat → Prop) : Prop :=
  ∃ rs : List Nat, df = rs.map (fun r => { target := .collected r, args := #[] }) ∧ rs.Nodup ∧ ∀ r ∈ rs, mine r ∧ H[r]? = some (.deferred (some []))

structure Start where
  g : Gh
  H : Heap
  s : St

/-- All that does not change while a frame runs. -/
structure Fix where
  X : Ctx
  h : Hint
  z : Start
  kept : Nat → Prop
  wr : Nat → Bool
  nt : Nat
  df : List Deferred

structure Sim (F : Fix) (g : Gh) (H : Heap) (s : St) (mine : Nat → Prop) (e : Env) (tmps : Array Value) (at_ : AT) : Prop where
  rel : Rel F.X g H s F.kept mine
  evo : Evo F.z.g F.z.H F.z.s F.kept g H s
  slots : ∀ t, SlotOk F.X F.h g H (Acc F.wr F.kept mine) e tmps t
  inj : ∀ t t' b, Own F.h F.wr e at_ t → Own F.h F.wr e at_ t' → blk tmps t = some b → blk tmps t' = some b → t = t'
  adr : ∀ q p off, (q, some p) ∈ at_ → e q = .off off → F.h.prom.contains p = true ∧ F.h.prom.contains q = false ∧ e p ≠ .undef ∧ ∃ b, blk tmps p = some b ∧ tmps.getD q undef = .pointer (some ⟨b, off, none⟩)
  pnd : ∀ p n, (p, none) ∈ at_ → e p = .pend n → F.h.prom.contains p = false ∧ ∃ b c el, blk tmps p = some b ∧ H[b]? = some (.cells c el (0, 0)) ∧ c.size = n ∧ mine b
  size : tmps.size = F.nt
  dfs : DefOk F.df H mine

section
variable {F : Fix} {g g' : Gh} {H H' : Heap} {s s' : St} {mine mine' : Nat → Prop} {e : Env} {tmps : Array Value} {at_ at' : AT}

theorem getD_set_same {tmps : Array Value} {d : Nat} {v : Value} (h : d < tmps.size) : (tmps.setIfInBounds d v).getD d undef = v := by
  simp [Array.getD, h]
theorem getD_set_other {tmps : Array Value} {d t : Nat} {v : Value} (h : t ≠ d) : (tmps.setIfInBounds d v).getD t undef = tmps.getD t undef := by
  rw [Array.getD_eq_getD_getElem?, Array.getD_eq_getD_getElem?, Array.getElem?_setIfInBounds_ne (fun e => h e.symm)]
theorem blk_set_other {tmps : Array Value} {d t : Nat} {v : Value} (h : t ≠ d) : blk (tmps.setIfInBounds d v) t = blk tmps t := by
  unfold blk; rw [getD_set_other h]
theorem blk_set_same {tmps : Array Value} {d b : Nat} (h : d < tmps.size) : blk (tmps.setIfInBounds d (.pointer (some ⟨b, 0, none⟩))) d = some b := by
  unfold blk; simp only [getD_set_same h]
theorem Env.set_same {e : Env} {d : Nat} {v : V} : (e.set d v) d = v := by simp [Env.set]
theorem Env.set_other {e : Env} {d t : Nat} {v : V} (h : t ≠ d) : (e.set d v) t = e t := by simp [Env.set, h]

theorem SlotOk.val {X : Ctx} {h : Hint} {A : Nat → Nat → Prop} {t : Nat} (hp : h.prom.contains t = false) : SlotOk X h g H A e tmps t ↔ Enc X.nm g H (e t) (tmps.getD t undef) := by
  unfold SlotOk
  rw [if_neg (by rw [hp]; simp)]
theorem SlotOk.prom {X : Ctx} {h : Hint} {A : Nat → Nat → Prop} {t : Nat} (hp : h.prom.contains t = true) : SlotOk X h g H A e tmps t ↔ (e t = .undef ∨ ∃ b c el, blk tmps t = some b ∧ H[b]? = some (.cells c el (0, 0)) ∧ EncL X.nm g H (e t).cells c ∧ (∃ sh, (e t).fits sh = true) ∧ A t b) := by
  unfold SlotOk
  rw [if_pos hp]
theorem SlotOk.congr {X : Ctx} {h : Hint} {A : Nat → Nat → Prop} {t : Nat} {e' : Env} {tmps' : Array Value} (h1 : e' t = e t) (h2 : tmps'.getD t undef = tmps.getD t undef) (hk : SlotOk X h g H A e tmps t) : SlotOk X h g H A e' tmps' t := by
  unfold SlotOk blk at *
  rw [h1, h2]
  exact hk

theorem Sim.slots' (hS : Sim F g H s mine e tmps at_) : Slots F.X F.h g H e tmps := fun t ht => (SlotOk.val ht).1 (hS.slots t)
theorem Sim.globs (hS : Sim F g H s mine e tmps at_) : Globs F.X g H := hS.rel.glob

/-- A slot gets a value. -/
theorem Sim.setVal (hS : Sim F g H s mine e tmps at_) {d : Nat} {x : V} {v : Value} (hp : F.h.prom.contains d = false) (hd : d < F.nt) (hx : Enc F.X.nm g H x v) (hat : ∀ y ∈ at', y ∈ at_ ∧ y.1 ≠ d) :
    Sim F g H s mine (e.set d x) (tmps.setIfInBounds d v) at' := by
  have hpd : ∀ p, F.h.prom.contains p = true → p ≠ d := by rintro p h rfl; rw [hp] at h; cases h
  have own : ∀ t, Own F.h F.wr (e.set d x) at' t → t ≠ d ∧ Own F.h F.wr e at_ t := by
    rintro t (⟨h1, h2, h3⟩ | ⟨h1, h2⟩)
    · have := hpd t h1
      rw [Env.set_other this] at h3
      exact ⟨this, .inl ⟨h1, h2, h3⟩⟩
    · have := (hat _ h1).2
      simp only at this
      rw [Env.set_other this] at h2
      exact ⟨this, .inr ⟨(hat _ h1).1, h2⟩⟩
  refine { rel := hS.rel, evo := hS.evo, slots := ?_, inj := ?_, adr := ?_, pnd := ?_, size := by simpa using hS.size, dfs := hS.dfs }
  · intro t
    by_cases e1 : t = d
    · subst e1
      rw [SlotOk.val hp, Env.set_same, getD_set_same (by rw [hS.size]; exact hd)]
      exact hx
    · exact (hS.slots t).congr (Env.set_other e1) (getD_set_other e1)
  · intro t t' b h1 h2 h3 h4
    obtain ⟨n1, o1⟩ := own t h1
    obtain ⟨n2, o2⟩ := own t' h2
    rw [blk_set_other n1] at h3
    rw [blk_set_other n2] at h4
    exact hS.inj t t' b o1 o2 h3 h4
  · intro q p off h1 h2
    have n1 := (hat _ h1).2
    simp only at n1
    rw [Env.set_other n1] at h2
    obtain ⟨a1, a2, a3, b, a4, a5⟩ := hS.adr q p off (hat _ h1).1 h2
    have np := hpd p a1
    exact ⟨a1, a2, by rw [Env.set_other np]; exact a3, b, by rw [blk_set_other np]; exact a4, by rw [getD_set_other n1]; exact a5⟩
  · intro p n h1 h2
    have n1 := (hat _ h1).2
    simp only at n1
    rw [Env.set_other n1] at h2
    obtain ⟨a1, b, c, el, a2, a3⟩ := hS.pnd p n (hat _ h1).1 h2
    exact ⟨a1, b, c, el, by rw [blk_set_other n1]; exact a2, a3⟩

/-- An address into a promoted variable. -/
theorem Sim.setOff (hS : Sim F g H s mine e tmps at_) {d p off b : Nat} (hp : F.h.prom.contains d = false) (hd : d < F.nt) (hpp : F.h.prom.contains p = true) (hu : e p ≠ .undef) (hb : blk tmps p = some b) (hat : ∀ y ∈ at', (y ∈ at_ ∧ y.1 ≠ d) ∨ y = (d, some p)) :
    Sim F g H s mine (e.set d (.off off)) (tmps.setIfInBounds d (.pointer (some ⟨b, off, none⟩))) at' := by
  have hS' := hS.setVal (at' := at'.filter fun y => y != (d, some p)) hp hd (x := .off off) (v := .pointer (some ⟨b, off, none⟩)) (.off _ _) (by
    intro y hy
    simp at hy
    exact (hat y hy.1).resolve_right hy.2)
  have hpd : p ≠ d := by rintro rfl; rw [hp] at hpp; cases hpp
  have own : ∀ t, Own F.h F.wr (e.set d (.off off)) at' t → Own F.h F.wr (e.set d (.off off)) (at'.filter fun y => y != (d, some p)) t := by
    rintro t (h | ⟨h1, h2⟩)
    · exact .inl h
    · exact .inr ⟨by simp [h1], h2⟩
  refine { rel := hS'.rel, evo := hS'.evo, slots := hS'.slots, inj := fun t t' b h1 h2 => hS'.inj t t' b (own t h1) (own t' h2), adr := ?_, pnd := ?_, size := hS'.size, dfs := hS'.dfs }
  · intro q p' off' h1 h2
    by_cases e1 : (q, some p') = (d, some p)
    · cases e1
      rw [Env.set_same] at h2
      cases h2
      exact ⟨hpp, hp, by rw [Env.set_other hpd]; exact hu, b, by rw [blk_set_other hpd]; exact hb, getD_set_same (by rw [hS.size]; exact hd)⟩
    · exact hS'.adr q p' off' (by simp [h1]; simpa using e1) h2
  · intro p' n h1 h2
    exact hS'.pnd p' n (by simp [h1]) h2

/-- The heap changes; none of the frame's own blocks. -/
theorem Sim.heap (hS : Sim F g H s mine e tmps at_) (hr : Rel F.X g' H' s' F.kept mine) (he : Evo g H s F.kept g' H' s') (hm : ∀ b, mine b → H'[b]? = H[b]?) : Sim F g' H' s' mine e tmps at_ := by
  refine { rel := hr, evo := hS.evo.trans he, slots := ?_, inj := hS.inj, adr := hS.adr, pnd := ?_, size := hS.size, dfs := ?_ }
  · intro t
    refine (hS.slots t).mono he.le he.stays (A' := Acc F.wr F.kept mine) fun b hb => ⟨hb, ?_⟩
    unfold Acc at hb
    split at hb
    · exact hm b hb
    · exact he.keep b hb
  · intro p n h1 h2
    obtain ⟨a1, b, c, el, a2, a3, a4, a5⟩ := hS.pnd p n h1 h2
    exact ⟨a1, b, c, el, a2, (hm b a5).trans a3, a4, a5⟩
  · obtain ⟨rs, h1, h2, h3⟩ := hS.dfs
    exact ⟨rs, h1, h2, fun r hr => ⟨(h3 r hr).1, (hm r (h3 r hr).1).trans (h3 r hr).2⟩⟩

/-- Less is known of addresses. -/
theorem Sim.forget (hS : Sim F g H s mine e tmps at_) (hat : ∀ y ∈ at', y ∈ at_) : Sim F g H s mine e tmps at' := by
  have own : ∀ t, Own F.h F.wr e at' t → Own F.h F.wr e at_ t := by
    rintro t (h | ⟨h1, h2⟩)
    · exact .inl h
    · exact .inr ⟨hat _ h1, h2⟩
  exact { rel := hS.rel, evo := hS.evo, slots := hS.slots, inj := fun t t' b h1 h2 => hS.inj t t' b (own t h1) (own t' h2), adr := fun q p off h1 => hS.adr q p off (hat _ h1), pnd := fun p n h1 => hS.pnd p n (hat _ h1), size := hS.size, dfs := hS.dfs }

/-- A block of one's own more. -/
theorem Sim.own (hS : Sim F g H s mine e tmps at_) {b0 : Nat} (hf : Free g s F.kept mine b0) (hlt : b0 < H.size) : Sim F g H s (fun b => mine b ∨ b = b0) e tmps at_ := by
  refine { rel := hS.rel.own hf hlt, evo := hS.evo, slots := ?_, inj := hS.inj, adr := hS.adr, pnd := ?_, size := hS.size, dfs := ?_ }
  · intro t
    refine (hS.slots t).mono (.refl g) (.refl g H) fun b hb => ⟨?_, rfl⟩
    unfold Acc at hb ⊢
    by_cases hwt : F.wr t = true
    · rw [if_pos hwt] at hb ⊢; exact .inl hb
    · rw [if_neg hwt] at hb ⊢; exact hb
  · intro p n h1 h2
    obtain ⟨a1, b, c, el, a2, a3, a4, a5⟩ := hS.pnd p n h1 h2
    exact ⟨a1, b, c, el, a2, a3, a4, .inl a5⟩
  · obtain ⟨rs, h1, h2, h3⟩ := hS.dfs
    exact ⟨rs, h1, h2, fun r hr => ⟨.inl (h3 r hr).1, (h3 r hr).2⟩⟩

/-- The frame's blocks lie in the heap. -/
theorem Sim.mine_lt (hS : Sim F g H s mine e tmps at_) {b : Nat} (hb : mine b) : b < H.size := (hS.rel.bmine b hb).1
theorem Sim.blk_lt (hS : Sim F g H s mine e tmps at_) {t b : Nat} (ht : F.h.prom.contains t = true ∧ e t ≠ .undef) (hb : blk tmps t = some b) : b < H.size := by
  have := (SlotOk.prom ht.1).1 (hS.slots t)
  rcases this with h | ⟨b', c, el, h1, h2, _⟩
  · exact absurd h ht.2
  · obtain rfl := Option.some.inj (h1.symm.trans hb)
    exact (Array.getElem?_eq_some_iff.1 h2).1

/-- A promoted variable, laid anew. -/
theorem Sim.newProm (hS : Sim F g H s mine e tmps at_) {p : Nat} {x : V} {c : Array Value} {el : TypeId} (hp : F.h.prom.contains p = true) (hd : p < F.nt) (hw : F.wr p = true) (hx : EncL F.X.nm g H x.cells c) (hf : ∃ sh, x.fits sh = true)
    (hat : ∀ y ∈ at', y ∈ at_ ∧ y.1 ≠ p ∧ y.2 ≠ some p) :
    Sim F g (H.push (.cells c el)) s (fun b => mine b ∨ b = H.size) (e.set p x) (tmps.setIfInBounds p (.pointer (some ⟨H.size, 0, none⟩))) at' := by
  obtain ⟨hr, hfree⟩ := hS.rel.push (.cells c el)
  have hev : Evo g H s F.kept g (H.push (.cells c el)) s := ⟨.refl g, stays_push hS.rel _, fun b hb => push_old H _ (hS.rel.bkept b hb), by simp, fun _ _ h => .inl h, fun _ L h => ⟨L, h, fun _ h => h⟩, fun _ _ _ _ h => h, fun _ h => h⟩
  have hS1 := hS.heap hr hev fun b hb => push_old H _ (hS.mine_lt hb)
  have hS2 := hS1.own hfree (by simp)
  have hst : Stays g H (H.push (.cells c el)) := stays_push hS.rel _
  have own : ∀ t, Own F.h F.wr (e.set p x) at' t → t ≠ p → Own F.h F.wr e at_ t := by
    rintro t (⟨h1, h2, h3⟩ | ⟨h1, h2⟩) hne
    · rw [Env.set_other hne] at h3
      exact .inl ⟨h1, h2, h3⟩
    · rw [Env.set_other hne] at h2
      exact .inr ⟨(hat _ h1).1, h2⟩
  have old : ∀ t, t ≠ p → Own F.h F.wr (e.set p x) at' t → ∀ b, blk tmps t = some b → b ≠ H.size := by
    rintro t hne ho b hb rfl
    rcases own t ho hne with ⟨h1, h2, h3⟩ | ⟨h1, n, h2⟩
    · exact Nat.lt_irrefl _ (hS.blk_lt ⟨h1, h3⟩ hb)
    · obtain ⟨_, b', c', el', a2, a3, _, a5⟩ := hS.pnd t n h1 h2
      obtain rfl := Option.some.inj (a2.symm.trans hb)
      exact Nat.lt_irrefl _ (hS.mine_lt a5)
  have hsz : p < tmps.size := by rw [hS.size]; exact hd
  refine { rel := hS2.rel, evo := hS2.evo, slots := ?_, inj := ?_, adr := ?_, pnd := ?_, size := by simpa using hS.size, dfs := hS2.dfs }
  · intro t
    by_cases e1 : t = p
    · subst e1
      rw [SlotOk.prom hp]
      refine .inr ⟨H.size, c, el, blk_set_same hsz, push_new H _, ?_, ?_, ?_⟩
      · rw [Env.set_same]; exact hx.mono (.refl g) hst
      · rw [Env.set_same]; exact hf
      · unfold Acc; rw [if_pos hw]; exact .inr rfl
    · exact (hS2.slots t).congr (Env.set_other e1) (getD_set_other e1)
  · intro t t' b h1 h2 h3 h4
    by_cases e1 : t = p
    · by_cases e2 : t' = p
      · rw [e1, e2]
      · subst e1
        rw [blk_set_same hsz] at h3
        rw [blk_set_other e2] at h4
        exact absurd (Option.some.inj h3).symm (old t' e2 h2 b h4)
    · by_cases e2 : t' = p
      · subst e2
        rw [blk_set_same hsz] at h4
        rw [blk_set_other e1] at h3
        exact absurd (Option.some.inj h4).symm (old t e1 h1 b h3)
      · rw [blk_set_other e1] at h3
        rw [blk_set_other e2] at h4
        exact hS.inj t t' b (own t h1 e1) (own t' h2 e2) h3 h4
  · intro q p' off h1 h2
    obtain ⟨m1, n1, n2⟩ := hat _ h1
    simp only at n1
    have n3 : p' ≠ p := fun h => n2 (by rw [h])
    rw [Env.set_other n1] at h2
    obtain ⟨a1, a2, a3, b, a4, a5⟩ := hS.adr q p' off m1 h2
    exact ⟨a1, a2, by rw [Env.set_other n3]; exact a3, b, by rw [blk_set_other n3]; exact a4, by rw [getD_set_other n1]; exact a5⟩
  · intro p' n h1 h2
    obtain ⟨m1, n1, _⟩ := hat _ h1
    simp only at n1
    rw [Env.set_other n1] at h2
    obtain ⟨a1, b, c', el', a2, a3⟩ := hS2.pnd p' n m1 h2
    exact ⟨a1, b, c', el', by rw [blk_set_other n1]; exact a2, a3⟩

/-- A variable that waits for its first value. -/
theorem Sim.newPend (hS : Sim F g H s mine e tmps at_) {p : Nat} {c : Array Value} {el : TypeId} (hp : F.h.prom.contains p = false) (hd : p < F.nt)
    (hat : ∀ y ∈ at', (y ∈ at_ ∧ y.1 ≠ p) ∨ y = (p, none)) :
    Sim F g (H.push (.cells c el)) s (fun b => mine b ∨ b = H.size) (e.set p (.pend c.size)) (tmps.setIfInBounds p (.pointer (some ⟨H.size, 0, none⟩))) at' := by
  obtain ⟨hr, hfree⟩ := hS.rel.push (.cells c el)
  have hev : Evo g H s F.kept g (H.push (.cells c el)) s := ⟨.refl g, stays_push hS.rel _, fun b hb => push_old H _ (hS.rel.bkept b hb), by simp, fun _ _ h => .inl h, fun _ L h => ⟨L, h, fun _ h => h⟩, fun _ _ _ _ h => h, fun _ h => h⟩
  have hS1 := hS.heap hr hev fun b hb => push_old H _ (hS.mine_lt hb)
  have hS2 := hS1.own hfree (by simp)
  have hS3 := hS2.setVal (at' := at'.filter fun y => y != (p, none)) hp hd (x := .pend c.size) (v := .pointer (some ⟨H.size, 0, none⟩)) (.pend _ _) (by
    intro y hy
    simp at hy
    exact (hat y hy.1).resolve_right hy.2)
  have hsz : p < tmps.size := by rw [hS.size]; exact hd
  have own : ∀ t, Own F.h F.wr (e.set p (.pend c.size)) at' t → t ≠ p → Own F.h F.wr e at_ t := by
    rintro t (⟨h1, h2, h3⟩ | ⟨h1, h2⟩) hne
    · rw [Env.set_other hne] at h3
      exact .inl ⟨h1, h2, h3⟩
    · rw [Env.set_other hne] at h2
      exact .inr ⟨((hat _ h1).resolve_right (by simpa using hne)).1, h2⟩
  have old : ∀ t, t ≠ p → Own F.h F.wr (e.set p (.pend c.size)) at' t → ∀ b, blk tmps t = some b → b ≠ H.size := by
    rintro t hne ho b hb rfl
    rcases own t ho hne with ⟨h1, h2, h3⟩ | ⟨h1, n, h2⟩
    · exact Nat.lt_irrefl _ (hS.blk_lt ⟨h1, h3⟩ hb)
    · obtain ⟨_, b', c', el', a2, a3, _, a5⟩ := hS.pnd t n h1 h2
      obtain rfl := Option.some.inj (a2.symm.trans hb)
      exact Nat.lt_irrefl _ (hS.mine_lt a5)
  refine { rel := hS3.rel, evo := hS3.evo, slots := hS3.slots, inj := ?_, adr := ?_, pnd := ?_, size := hS3.size, dfs := hS3.dfs }
  · intro t t' b h1 h2 h3 h4
    by_cases e1 : t = p
    · by_cases e2 : t' = p
      · rw [e1, e2]
      · subst e1
        rw [blk_set_same hsz] at h3
        rw [blk_set_other e2] at h4
        exact absurd (Option.some.inj h3).symm (old t' e2 h2 b h4)
    · by_cases e2 : t' = p
      · subst e2
        rw [blk_set_same hsz] at h4
        rw [blk_set_other e1] at h3
        exact absurd (Option.some.inj h4).symm (old t e1 h1 b h3)
      · rw [blk_set_other e1] at h3
        rw [blk_set_other e2] at h4
        exact hS.inj t t' b (own t h1 e1) (own t' h2 e2) h3 h4
  · intro q p' off h1 h2
    exact hS3.adr q p' off (by simp [h1]) h2
  · intro p' n h1 h2
    by_cases e1 : p' = p
    · subst e1
      rw [Env.set_same] at h2
      cases h2
      exact ⟨hp, H.size, c, el, blk_set_same hsz, push_new H _, rfl, .inr rfl⟩
    · exact hS3.pnd p' n (by simp [h1, e1]) h2

/-- A promoted variable's block is written. -/
theorem Sim.setProm (hS : Sim F g H s mine e tmps at_) {p b : Nat} {x : V} {c : Array Value} {el : TypeId} (hp : F.h.prom.contains p = true) (hu : e p ≠ .undef) (hw : F.wr p = true) (hb : blk tmps p = some b)
    (hs : H'.size = H.size) (hsame : ∀ b', b' ≠ b → H'[b']? = H[b']?) (hnew : H'[b]? = some (.cells c el (0, 0))) (hx : EncL F.X.nm g H x.cells c) (hf : ∃ sh, x.fits sh = true) :
    Sim F g H' s mine (e.set p x) tmps at_ := by
  have hmb : mine b := by
    rcases (SlotOk.prom hp).1 (hS.slots p) with h | ⟨b', _, _, h1, _, _, _, h5⟩
    · exact absurd h hu
    · obtain rfl := Option.some.inj (h1.symm.trans hb)
      unfold Acc at h5
      rwa [if_pos hw] at h5
  have hzb : ∀ b' j, g.Z b' j → b' ≠ b := by rintro b' j hz rfl; exact hS.rel.zmine _ _ hz hmb
  have hst : Stays g H H' := fun b' j hz => cellH_congr (hsame b' (hzb b' j hz))
  have hfree := hS.rel.freeOf hmb
  have hr : Rel F.X g H' s F.kept mine := by
    have hr0 := (hS.rel.disown (mine' := fun b' => mine b' ∧ b' ≠ b) (fun _ h => h.1)).touch (b0 := b) (H' := H') (by omega) (fun b' _ hne => hsame b' hne) (fun _ => ⟨hfree.kept, hfree.z, hfree.obj, hfree.tok⟩)
    have hr1 := hr0.own hfree (by rw [hs]; exact hS.mine_lt hmb)
    refine hr1.disown fun b' hb' => ?_
    by_cases e1 : b' = b
    · exact .inr e1
    · exact .inl ⟨hb', e1⟩
  have hun : x ≠ .undef := by
    rintro rfl
    obtain ⟨sh, hsh⟩ := hf
    cases sh <;> simp [V.fits, V.scal] at hsh
  have ownp : Own F.h F.wr e at_ p := .inl ⟨hp, hw, hu⟩
  have own : ∀ t, Own F.h F.wr (e.set p x) at_ t → Own F.h F.wr e at_ t := by
    rintro t (⟨h1, h2, h3⟩ | ⟨h1, n, h2⟩)
    · by_cases e1 : t = p
      · subst e1; exact ownp
      · rw [Env.set_other e1] at h3; exact .inl ⟨h1, h2, h3⟩
    · by_cases e1 : t = p
      · subst e1; exact ownp
      · rw [Env.set_other e1] at h2; exact .inr ⟨h1, n, h2⟩
  refine { rel := hr, evo := hS.evo.trans ⟨.refl g, hst, fun b' hb' => hsame b' (fun e1 => hfree.kept (e1 ▸ hb')), by omega, fun _ _ h => .inl h, fun _ L h => ⟨L, h, fun _ h => h⟩, fun _ _ _ _ h => h, fun _ h => h⟩, slots := ?_, inj := fun t t' b' h1 h2 => hS.inj t t' b' (own t h1) (own t' h2), adr := ?_, pnd := ?_, size := hS.size, dfs := ?_ }
  · intro t
    by_cases e1 : t = p
    · subst e1
      rw [SlotOk.prom hp, Env.set_same]
      exact .inr ⟨b, c, el, hb, hnew, hx.mono (.refl g) hst, hf, by unfold Acc; rw [if_pos hw]; exact hmb⟩
    · have h0 := hS.slots t
      by_cases hpt : F.h.prom.contains t = true
      · rw [SlotOk.prom hpt] at h0 ⊢
        rw [Env.set_other e1]
        rcases h0 with h0 | ⟨b', c', el', q1, q2, q3, q4, q5⟩
        · exact .inl h0
        · have hne : b' ≠ b := by
            rintro rfl
            unfold Acc at q5
            split at q5
            · rename_i hwt
              by_cases hut : e t = .undef
              · rw [hut] at q4; obtain ⟨sh, q4⟩ := q4; cases sh <;> simp [V.fits, V.scal] at q4
              · exact e1 (hS.inj t p b' (.inl ⟨hpt, hwt, hut⟩) ownp q1 hb)
            · exact hfree.kept q5
          exact .inr ⟨b', c', el', q1, (hsame b' hne).trans q2, q3.mono (.refl g) hst, q4, q5⟩
      · have hpt : F.h.prom.contains t = false := by simpa using hpt
        rw [SlotOk.val hpt] at h0 ⊢
        rw [Env.set_other e1]
        exact h0.mono (.refl g) hst
  · intro q p' off h1 h2
    have hqp : q ≠ p := by
      rintro rfl
      rw [Env.set_same] at h2
      subst h2
      obtain ⟨sh, hf⟩ := hf
      cases sh <;> simp [V.fits, V.scal] at hf
    rw [Env.set_other hqp] at h2
    obtain ⟨a1, a2, a3, b', a4, a5⟩ := hS.adr q p' off h1 h2
    refine ⟨a1, a2, ?_, b', a4, a5⟩
    by_cases e1 : p' = p
    · subst e1; rw [Env.set_same]; exact hun
    · rw [Env.set_other e1]; exact a3
  · intro p' n h1 h2
    have hqp : p' ≠ p := by
      rintro rfl
      rw [Env.set_same] at h2
      subst h2
      obtain ⟨sh, hf⟩ := hf
      cases sh <;> simp [V.fits, V.scal] at hf
    rw [Env.set_other hqp] at h2
    obtain ⟨a1, b', c', el', a2, a3, a4, a5⟩ := hS.pnd p' n h1 h2
    refine ⟨a1, b', c', el', a2, (hsame b' ?_).trans a3, a4, a5⟩
    rintro rfl
    exact hqp (hS.inj p' p b' (.inr ⟨h1, n, h2⟩) ownp a2 hb)
  · obtain ⟨rs, h1, h2, h3⟩ := hS.dfs
    refine ⟨rs, h1, h2, fun r hr => ⟨(h3 r hr).1, ?_⟩⟩
    rw [hsame r ?_]
    · exact (h3 r hr).2
    · rintro rfl
      have q1 := (h3 r hr).2
      rcases (SlotOk.prom hp).1 (hS.slots p) with h | ⟨b', _, _, h1', h2', _⟩
      · exact absurd h hu
      · obtain rfl := Option.some.inj (h1'.symm.trans hb)
        rw [q1] at h2'
        cases h2'

/-- The first value of a variable that waited: what was one's own is free. -/
theorem Sim.pendOut (hS : Sim F g H s mine e tmps at_) {p n : Nat} (hat : (p, none) ∈ at_) (hp : e p = .pend n) (hat' : ∀ y ∈ at', y ∈ at_ ∧ y.1 ≠ p) : ∃ b c el, tmps.getD p undef = .pointer (some ⟨b, 0, none⟩) ∧ H[b]? = some (.cells c el (0, 0)) ∧ c.size = n ∧ F.h.prom.contains p = false ∧ b < H.size ∧
    Free g s F.kept (fun b' => mine b' ∧ b' ≠ b) b ∧ Sim F g H s (fun b' => mine b' ∧ b' ≠ b) (e.set p .undef) tmps at' := by
  obtain ⟨a1, b, c, el, a2, a3, a4, a5⟩ := hS.pnd p n hat hp
  have ownp : Own F.h F.wr e at_ p := .inr ⟨hat, n, hp⟩
  have ptr : tmps.getD p undef = .pointer (some ⟨b, 0, none⟩) := by
    unfold blk at a2
    split at a2
    · rename_i h; cases a2; exact h
    · cases a2
  have hpd : ∀ p', F.h.prom.contains p' = true → p' ≠ p := by rintro p' h rfl; rw [a1] at h; cases h
  have own : ∀ t, Own F.h F.wr (e.set p .undef) at' t → t ≠ p ∧ Own F.h F.wr e at_ t := by
    rintro t (⟨h1, h2, h3⟩ | ⟨h1, n, h2⟩)
    · have := hpd t h1
      rw [Env.set_other this] at h3
      exact ⟨this, .inl ⟨h1, h2, h3⟩⟩
    · have := (hat' _ h1).2
      simp only at this
      rw [Env.set_other this] at h2
      exact ⟨this, .inr ⟨(hat' _ h1).1, n, h2⟩⟩
  refine ⟨b, c, el, ptr, a3, a4, a1, hS.mine_lt a5, hS.rel.freeOf a5, { rel := hS.rel.disown fun _ h => h.1, evo := hS.evo, slots := ?_, inj := ?_, adr := ?_, pnd := ?_, size := hS.size, dfs := ?_ }⟩
  · intro t
    by_cases e1 : t = p
    · subst e1
      rw [SlotOk.val a1, Env.set_same]
      exact .undef _
    · have h0 := hS.slots t
      by_cases hpt : F.h.prom.contains t = true
      · rw [SlotOk.prom hpt] at h0 ⊢
        rw [Env.set_other e1]
        rcases h0 with h0 | ⟨b', c', el', q1, q2, q3, q4, q5⟩
        · exact .inl h0
        · refine .inr ⟨b', c', el', q1, q2, q3, q4, ?_⟩
          unfold Acc at q5 ⊢
          by_cases hwt : F.wr t = true
          · rw [if_pos hwt] at q5 ⊢
            refine ⟨q5, ?_⟩
            rintro rfl
            by_cases hut : e t = .undef
            · rw [hut] at q4; obtain ⟨sh, q4⟩ := q4; cases sh <;> simp [V.fits, V.scal] at q4
            · exact e1 (hS.inj t p b' (.inl ⟨hpt, hwt, hut⟩) ownp q1 a2)
          · rw [if_neg hwt] at q5 ⊢; exact q5
      · have hpt : F.h.prom.contains t = false := by simpa using hpt
        rw [SlotOk.val hpt] at h0 ⊢
        rw [Env.set_other e1]
        exact h0
  · intro t t' b' h1 h2 h3 h4
    exact hS.inj t t' b' (own t h1).2 (own t' h2).2 h3 h4
  · intro q p' off h1 h2
    have n1 := (hat' _ h1).2
    simp only at n1
    rw [Env.set_other n1] at h2
    obtain ⟨b1, b2, b3, b', b4, b5⟩ := hS.adr q p' off (hat' _ h1).1 h2
    exact ⟨b1, b2, by rw [Env.set_other (hpd p' b1)]; exact b3, b', b4, b5⟩
  · intro p' n' h1 h2
    have n1 := (hat' _ h1).2
    simp only at n1
    rw [Env.set_other n1] at h2
    obtain ⟨b1, b', c', el', b2, b3, b4, b5⟩ := hS.pnd p' n' (hat' _ h1).1 h2
    refine ⟨b1, b', c', el', b2, b3, b4, b5, ?_⟩
    rintro rfl
    exact n1 (hS.inj p' p b' (.inr ⟨(hat' _ h1).1, n', h2⟩) ownp b2 a2)
  · obtain ⟨rs, h1, h2, h3⟩ := hS.dfs
    refine ⟨rs, h1, h2, fun r hr => ⟨⟨(h3 r hr).1, ?_⟩, (h3 r hr).2⟩⟩
    rintro rfl
    rw [(h3 r hr).2] at a3
    cases a3

/-- A new block; of which nothing is told yet. -/
theorem Sim.push (hS : Sim F g H s mine e tmps at_) (o : Obj) : Sim F g (H.push o) s mine e tmps at_ ∧ Free g s F.kept mine H.size := by
  obtain ⟨hr, hfree⟩ := hS.rel.push o
  exact ⟨hS.heap hr ⟨.refl g, stays_push hS.rel _, fun b hb => push_old H _ (hS.rel.bkept b hb), by simp, fun _ _ h => .inl h, fun _ L h => ⟨L, h, fun _ h => h⟩, fun _ _ _ _ h => h, fun _ h => h⟩ fun b hb => push_old H _ (hS.mine_lt hb), hfree⟩
theorem Sim.newZ (hS : Sim F g H s mine e tmps at_) {b0 n : Nat} (hf : Free g s F.kept mine b0) (hc : ∀ j, j < n → ∃ v, cellH H b0 j = some v) : Sim F (g.withZ b0 0 n) H s mine e tmps at_ :=
  hS.heap (hS.rel.newZ hf hc).1 (hS.rel.newZ hf hc).2 fun _ _ => rfl
theorem Sim.fresh (hS : Sim F g H s mine e tmps at_) : ∃ l, s l = none ∧ g.β l = none ∧ g.τ l = none := by
  obtain ⟨N, hN⟩ := hS.rel.fin
  exact ⟨N, hN N (Nat.le_refl _)⟩
theorem Sim.newObj (hS : Sim F g H s mine e tmps at_) {l b0 : Nat} {o : PObj} (hl : s l = none ∧ g.β l = none ∧ g.τ l = none) (hf : Free g s F.kept mine b0) (hlt : b0 < H.size) (hlive : o.live = true)
    (ho : EncObj F.X (g.withObj l b0 fun _ => False) H l b0 o) (hnl : ∀ L, o ≠ .loop L) : Sim F (g.withObj l b0 fun _ => False) H (s.set l o) mine e tmps at_ :=
  hS.heap (hS.rel.newObj hl.1 hl.2.1 hl.2.2 hf hlt hlive (fun _ h => h.elim) ho hnl).1 (hS.rel.newObj hl.1 hl.2.1 hl.2.2 hf hlt hlive (fun _ h => h.elim) ho hnl).2 fun _ _ => rfl
theorem Sim.world (hS : Sim F g H s mine e tmps at_) (h : H' = H) : Sim F g H' s mine e tmps at_ := h ▸ hS
theorem cellH_push (H : Heap) (c : Array Value) (el : TypeId) (j : Nat) : cellH (H.push (.cells c el)) H.size j = c[j]? := by
  simp [cellH]

/-- An aggregate in cells that stay: a pointer to it. -/
theorem Enc.rptr_new {nm : FuncId → Option Nat} {b0 n : Nat} {cs : List V} {c : Array Value} {el : TypeId} (hb : H[b0]? = some (.cells c el (0, 0))) (hc : EncL nm g H cs c) (hn : cs.length ≤ n) :
    Enc nm (g.withZ b0 0 n) H (.rptr cs 0) (.pointer (some ⟨b0, 0, none⟩)) := by
  have hcell : ∀ j, cellH H b0 j = c[j]? := fun j => by simp [cellH, hb]
  refine .rptr (base := 0) (o := 0) (vs := fun j => c.getD j Go.undef) ?_ ?_ ?_
  · intro j hj
    have : j < c.size := hc.1 ▸ hj
    rw [Nat.zero_add, hcell]
    simp [Array.getD, this]
  · intro j hj
    exact .inr ⟨rfl, by omega, by omega⟩
  · intro j x hx
    exact (hc.2 j x hx).mono Gh.le_withZ (.refl _ _)
end
end Go.Hu

set_option linter.unusedSimpArgs false
set_option linter.unusedVariables false
namespace Go.Hu

def put (tmps : Array Value) : Option Nat → Value → Array Value
  | some d, v => tmps.setIfInBounds d v
  | none, _ => tmps

/-- An operation comes to an end, and its pure twin too. -/
def Done (F : Fix) (o : Oper) (K : Env → St → Prop) (w : World) (tmps : Array Value) (at' : AT) : Prop :=
  ∃ v w', ((execOp (valOf tmps) o).run F.X.P w = .ok (.value v) w' ∨ ((execOp (valOf tmps) o).run F.X.P w = .ok .skip w' ∧ v = undef)) ∧ (w'.os = w.os ∧ w'.output = w.output) ∧
    ∃ e' s' g' mine', K e' s' ∧ Sim F g' w'.heap s' mine' e' (put tmps o.dst v) at'

section
variable {F : Fix} {g : Gh} {w : World} {s : St} {mine : Nat → Prop} {e : Env} {tmps : Array Value} {at_ at' : AT} {o : Oper} {K : Env → St → Prop} {ops : Array Oper} {tab tab' : Tab} {po : Op}

theorem cdst_inv {h : Hint} {d : Nat} (hc : cdst h o = some d) : o.dst = some d ∧ h.prom.contains d = false ∧ h.ro.contains d = false := by
  unfold cdst at hc
  obtain ⟨d', h1, h2⟩ := Option.bind_eq_some_iff.1 hc
  split at h2
  · cases h2
  · rename_i h3
    cases h2
    simp only [Bool.or_eq_true, not_or, Bool.not_eq_true] at h3
    exact ⟨h1, h3.1, h3.2⟩
theorem cval_inv {h : Hint} {q : POp} {xs : Option (List Opd)} {r : Op × Tab} (hc : cval h tab o q xs = some r) : ∃ d ys, o.dst = some d ∧ h.prom.contains d = false ∧ xs = some ys ∧ r = (.p d q ys, tab) := by
  unfold cval at hc
  obtain ⟨d, h1, h2⟩ := Option.bind_eq_some_iff.1 hc
  obtain ⟨ys, h3, h4⟩ := Option.map_eq_some_iff.1 h2
  obtain ⟨a, b, _⟩ := cdst_inv h1
  exact ⟨d, ys, a, b, h3, h4.symm⟩

/-- A value, and nothing else. -/
theorem done_val (hS : Sim F g w.heap s mine e tmps at_) {d : Nat} {x : V} (hod : o.dst = some d) (hp : F.h.prom.contains d = false) (hd : d < F.nt) (hat : ∀ y ∈ at', y ∈ at_ ∧ y.1 ≠ d) (hK : K (e.set d x) s)
    (hrun : ∃ v, (execOp (valOf tmps) o).run F.X.P w = .ok (.value v) w ∧ Enc F.X.nm g w.heap x v) : Done F o K w tmps at' := by
  obtain ⟨v, h1, h2⟩ := hrun
  refine ⟨v, w, .inl h1, by exact ⟨rfl, rfl⟩, e.set d x, s, g, mine, hK, ?_⟩
  rw [hod]
  exact hS.setVal hp hd h2 hat

/-- Operands. -/
theorem Sim.opd (hS : Sim F g w.heap s mine e tmps at_) {a : Operand} {x : Opd} (h : F.X.opd F.h a = some x) : Enc F.X.nm g w.heap (ev e x) (valOf tmps a) := opd_enc hS.slots' hS.globs h
theorem Sim.opds (hS : Sim F g w.heap s mine e tmps at_) {as : Array Operand} {xs : List Opd} (h : F.X.opds F.h as = some xs) : EncL F.X.nm g w.heap (xs.map (ev e)) (as.map (valOf tmps)) := by
  obtain ⟨h1, h2⟩ := opds_enc hS.slots' hS.globs h
  refine ⟨by simp [h1], fun j x hx => ?_⟩
  have := h2 j x hx
  rw [show (as.map (valOf tmps)).getD j undef = (as.toList.map (valOf tmps)).getD j undef by simp [Array.getD_eq_getD_getElem?, List.getD_eq_getElem?_getD]]
  exact this

/-! ## Parts filled in -/
theorem putAt_len {cs ys cs' : List V} {o : Nat} (h : putAt cs o ys = some cs') : cs'.length = cs.length ∧ o + ys.length ≤ cs.length := by
  unfold putAt at h
  split at h
  · cases h; refine ⟨?_, by assumption⟩; simp; omega
  · cases h
theorem putAt_get {cs ys cs' : List V} {o : Nat} (h : putAt cs o ys = some cs') (j : Nat) : cs'[j]? = if o ≤ j ∧ j < o + ys.length then ys[j - o]? else cs[j]? := by
  unfold putAt at h
  split at h
  · rename_i hle
    cases h
    by_cases h1 : j < o
    · rw [List.append_assoc, List.getElem?_append_left (by simp; omega), if_neg (by omega)]
      simp [List.getElem?_take, h1]
    · by_cases h2 : j < o + ys.length
      · rw [if_pos ⟨by omega, h2⟩, List.append_assoc, List.getElem?_append_right (by simp; omega), List.getElem?_append_left (by simp; omega)]
        congr 1
        simp; omega
      · rw [if_neg (by omega), List.append_assoc, List.getElem?_append_right (by simp; omega), List.getElem?_append_right (by simp; omega), List.getElem?_drop]
        congr 1
        simp; omega
  · cases h
/-- The same of the model's cells. -/
def putA (c : Array Value) (o : Nat) (vs : Array Value) : Array Value := (c.toList.take o ++ vs.toList ++ c.toList.drop (o + vs.size)).toArray
theorem putA_size {c vs : Array Value} {o : Nat} (h : o + vs.size ≤ c.size) : (putA c o vs).size = c.size := by
  unfold putA; simp; omega
theorem putA_get {c vs : Array Value} {o : Nat} (h : o + vs.size ≤ c.size) (j : Nat) : (putA c o vs)[j]? = if o ≤ j ∧ j < o + vs.size then vs[j - o]? else c[j]? := by
  unfold putA
  rw [List.getElem?_toArray]
  by_cases h1 : j < o
  · rw [List.append_assoc, List.getElem?_append_left (by simp; omega), if_neg (by omega)]
    simp [List.getElem?_take, h1]
  · by_cases h2 : j < o + vs.size
    · rw [if_pos ⟨by omega, h2⟩, List.append_assoc, List.getElem?_append_right (by simp; omega), List.getElem?_append_left (by simp; omega), Array.getElem?_toList]
      congr 1
      simp; omega
    · rw [if_neg (by omega), List.append_assoc, List.getElem?_append_right (by simp; omega), List.getElem?_append_right (by simp; omega), List.getElem?_drop, Array.getElem?_toList]
      congr 1
      simp; omega
theorem EncL.put {nm : FuncId → Option Nat} {H : Heap} {cs ys cs' : List V} {c vs : Array Value} {o : Nat} (hc : EncL nm g H cs c) (hv : EncL nm g H ys vs) (h : putAt cs o ys = some cs') : EncL nm g H cs' (putA c o vs) := by
  obtain ⟨h1, h2⟩ := putAt_len h
  have hsz : o + vs.size ≤ c.size := by rw [← hv.1, ← hc.1]; exact h2
  refine ⟨by rw [putA_size hsz, h1, hc.1], fun j x hx => ?_⟩
  rw [putAt_get h, hv.1] at hx
  rw [Array.getD_eq_getD_getElem?, putA_get hsz]
  split at hx
  · rename_i hj
    rw [if_pos hj]
    obtain ⟨v, e1, e2⟩ := hv.get hx
    rw [e1]; exact e2
  · rename_i hj
    rw [if_neg hj]
    obtain ⟨v, e1, e2⟩ := hc.get hx
    rw [e1]; exact e2
theorem fold_put (vs c : Array Value) (o : Nat) (h : o + vs.size ≤ c.size) : vs.zipIdx.foldl (fun cs (x, j) => cs.setIfInBounds (o + j) x) c = putA c o vs := by
  have key : ∀ (l : List Value) (k : Nat) (c : Array Value), o + k + l.length ≤ c.size → (l.zipIdx k).foldl (fun cs (x : Value × Nat) => cs.setIfInBounds (o + x.2) x.1) c = (c.toList.take (o + k) ++ l ++ c.toList.drop (o + k + l.length)).toArray := by
    intro l
    induction l with
    | nil => intro k c _; simp
    | cons x l ih =>
      intro k c hk
      simp only [List.length_cons] at hk
      rw [List.zipIdx_cons, List.foldl_cons, ih (k + 1) _ (by simp; omega)]
      apply Array.ext'
      simp only [Array.toList_setIfInBounds]
      have := list_seg_step c.toList (o + k) x l (by simp; omega)
      simpa [Nat.add_assoc] using this
  have := key vs.toList 0 c (by simpa using h)
  rw [← Array.foldl_toList, Array.toList_zipIdx]
  simpa [putA] using this

theorem solid_or {x : V} (h : x.solid = true) : (∃ cs, x = .agg cs) ∨ x.scal = true := by
  cases x <;> first | exact .inl ⟨_, rfl⟩ | exact .inr h

/-- The parts of a value, filled in one by one. -/
theorem fill_run {nm : FuncId → Option Nat} {H : Heap} {place : Nat → Option (Nat × Nat)} : ∀ (is : List Nat) (ps : List (Nat × Nat)) (xs : List V) (vs : List Value) (cs cs' : List V) (c : Array Value),
    is.length = ps.length → (∀ (j : Nat) i p, is[j]? = some i → ps[j]? = some p → place i = some p) → xs.length = vs.length → (∀ (j : Nat) x v, xs[j]? = some x → vs[j]? = some v → Enc nm g H x v) →
    EncL nm g H cs c → fillV cs ps xs = some cs' → ∃ c', Instr.fill place c (is.zip vs) = some c' ∧ EncL nm g H cs' c'
  | [], [], [], [], cs, cs', c, _, _, _, _, hc, h => by
    simp only [fillV, Option.some.injEq] at h
    subst h
    exact ⟨c, rfl, hc⟩
  | i :: is, p :: ps, x :: xs, v :: vs, cs, cs', c, hl, hp, hl', he, hc, h => by
    obtain ⟨off, n⟩ := p
    simp only [fillV] at h
    split at h
    · rename_i hs
      obtain ⟨cs1, h1, h2⟩ := Option.bind_eq_some_iff.1 h
      have hx := (he 0 x v (by simp) (by simp)).cells (solid_or hs.1)
      have hpl := hp 0 i (off, n) (by simp) (by simp)
      obtain ⟨_, hle⟩ := putAt_len h1
      have hsz : off + v.cells.size ≤ c.size := by rw [← hx.1, ← hc.1]; exact hle
      have hc1 := hc.put hx h1
      obtain ⟨c', h3, h4⟩ := fill_run is ps xs vs cs1 cs' (putA c off v.cells) (by simpa using hl) (fun j i p h1 h2 => hp (j + 1) i p (by simpa using h1) (by simpa using h2)) (by simpa using hl')
        (fun j x v h1 h2 => he (j + 1) x v (by simpa using h1) (by simpa using h2)) hc1 h2
      refine ⟨c', ?_, h4⟩
      simp only [List.zip_cons_cons, Instr.fill, hpl]
      have e1 : v.cells.size = n := by rw [← hx.1, hs.2]
      rw [if_neg (by simp [e1]; rw [← e1]; omega), fold_put _ _ _ hsz]
      exact h3
    · cases h
  | [], _ :: _, _, _, _, _, _, hl, _, _, _, _, _ => by simp at hl
  | _ :: _, [], _, _, _, _, _, hl, _, _, _, _, _ => by simp at hl
  | [], [], [], _ :: _, _, _, _, _, _, hl, _, _, _ => by simp at hl
  | [], [], _ :: _, _, _, _, _, _, _, _, _, _, h => by simp [fillV] at h
  | _ :: _, _ :: _, [], _, _, _, _, _, _, _, _, _, h => by simp [fillV] at h
  | _ :: _, _ :: _, _ :: _, [], _, _, _, _, _, hl, _, _, _ => by simp at hl


/-- What an operation writes of promoted variables. -/
def _root_.Go.Hu.Op.pw : Op → List Nat
  | .lput r _ _ | .lset r _ _ | .lstore r _ _ _ => [r]
  | _ => []

theorem step_mem {t : AT} {i : Ins} {y : Nat × Option Nat} (h : y ∈ AT.step t i) : AT.adds i = some y ∨ (y ∈ t ∧ AT.kills i y = false) := by
  unfold AT.step at h
  rcases List.mem_append.1 h with h | h
  · exact .inl (by simpa using h)
  · exact .inr (by simpa using h)

variable {C : CP} {gd : Option (Nat × Bool)}

theorem sim_move {x : Operand} (hS : Sim F g w.heap s mine e tmps at_) (ho : o.op = .move x ∨ o.op = .assign x) (hc : compileOp F.X F.h ops tab o = some (po, tab')) (hlt : ∀ d ∈ po.wr, d < F.nt) (hw : wpO C po e s K) :
    Done F o K w tmps (AT.step at_ ⟨po, gd⟩) := by
  have hc' : cval F.h tab o .mov (do some [← F.X.opd F.h x]) = some (po, tab') := by
    unfold compileOp at hc
    rcases ho with ho | ho <;> rw [ho] at hc <;> exact hc
  obtain ⟨d, ys, h1, h2, h3, h4⟩ := cval_inv hc'
  cases h4
  simp only [Option.bind_eq_bind, Option.bind_eq_some_iff, Option.some.injEq] at h3
  obtain ⟨y, hy, rfl⟩ := h3
  refine done_val hS h1 h2 (hlt d (by simp [Op.wr])) (fun y hy => ?_) hw ⟨valOf tmps x, ?_, hS.opd hy⟩
  · rcases step_mem hy with h | h
    · simp [AT.adds] at h
    · simpa [AT.kills, Op.wr] using h
  · rcases ho with ho | ho <;> simp [execOp, ho]

theorem hat_p {d : Nat} {q : POp} {xs : List Opd} : ∀ y ∈ AT.step at_ ⟨.p d q xs, gd⟩, y ∈ at_ ∧ y.1 ≠ d := fun y hy => by
  rcases step_mem hy with h | h
  · simp [AT.adds] at h
  · simpa [AT.kills, Op.wr] using h

theorem sim_pick {c a b : Operand} (hS : Sim F g w.heap s mine e tmps at_) (ho : o.op = .pick c a b) (hc : compileOp F.X F.h ops tab o = some (po, tab')) (hlt : ∀ d ∈ po.wr, d < F.nt) (hw : wpO C po e s K) :
    Done F o K w tmps (AT.step at_ ⟨po, gd⟩) := by
  unfold compileOp at hc
  rw [ho] at hc
  obtain ⟨d, ys, h1, h2, h3, h4⟩ := cval_inv hc
  cases h4
  simp only [Option.bind_eq_bind, Option.bind_eq_some_iff, Option.some.injEq] at h3
  obtain ⟨x, hx, y, hy, z, hz, rfl⟩ := h3
  simp only [wpO, List.map_cons, List.map_nil] at hw
  split at hw
  · rename_i v hv
    refine done_val hS h1 h2 (hlt d (by simp [Op.wr])) hat_p hw ?_
    obtain ⟨r, hr, he⟩ := ok_pick (hS.opd hx) (hS.opd hy) (hS.opd hz) hv
    exact ⟨r, by simpa [execOp, ho] using hr, he⟩
  · exact hw.elim

/-- A pure operation that the model carries out as a step that yields a value. -/
theorem sim_p {q : POp} {xs : Option (List Opd)} (hS : Sim F g w.heap s mine e tmps at_) (hc : cval F.h tab o q xs = some (po, tab')) (hlt : ∀ d ∈ po.wr, d < F.nt) (hw : wpO C po e s K)
    (hrun : ∀ ys v, xs = some ys → pv q (ys.map (ev e)) = some v → ∃ r, (execOp (valOf tmps) o).run F.X.P w = .ok (.value r) w ∧ Enc F.X.nm g w.heap v r) :
    Done F o K w tmps (AT.step at_ ⟨po, gd⟩) := by
  obtain ⟨d, ys, h1, h2, h3, h4⟩ := cval_inv hc
  cases h4
  simp only [wpO] at hw
  split at hw
  · rename_i v hv
    exact done_val hS h1 h2 (hlt d (by simp [Op.wr])) hat_p hw (hrun ys v h3 hv)
  · exact hw.elim
theorem sim_p' {q : POp} {d : Nat} {ys : List Opd} (hS : Sim F g w.heap s mine e tmps at_) (hod : o.dst = some d) (hp : F.h.prom.contains d = false) (hd : d < F.nt) (hw : wpO C (.p d q ys) e s K)
    (hrun : ∀ v, pv q (ys.map (ev e)) = some v → ∃ r, (execOp (valOf tmps) o).run F.X.P w = .ok (.value r) w ∧ Enc F.X.nm g w.heap v r) :
    Done F o K w tmps (AT.step at_ ⟨.p d q ys, gd⟩) := by
  simp only [wpO] at hw
  split at hw
  · rename_i v hv
    exact done_val hS hod hp hd hat_p hw (hrun v hv)
  · exact hw.elim

theorem sim_field {t : TypeId} {x : Operand} {f : Nat} (hS : Sim F g w.heap s mine e tmps at_) (ho : o.op = .field t x f) (hc : compileOp F.X F.h ops tab o = some (po, tab')) (hlt : ∀ d ∈ po.wr, d < F.nt) (hw : wpO C po e s K) :
    Done F o K w tmps (AT.step at_ ⟨po, gd⟩) := by
  unfold compileOp at hc
  rw [ho] at hc
  simp only [Option.bind_eq_bind, Option.bind_eq_some_iff] at hc
  obtain ⟨⟨off, ft⟩, hf, sh, hsh, hc⟩ := hc
  refine sim_p hS hc hlt hw fun ys v h1 h2 => ?_
  simp only [Option.bind_eq_some_iff, Option.some.injEq] at h1
  obtain ⟨y, hy, rfl⟩ := h1
  obtain ⟨r, hr, he⟩ := (ok_fld hf hsh (hS.opd hy) h2).next
  exact ⟨r, by simpa [execOp, ho] using hr, he⟩

theorem sim_index {t : TypeId} {x i : Operand} (hS : Sim F g w.heap s mine e tmps at_) (ho : o.op = .index t x i) (hc : compileOp F.X F.h ops tab o = some (po, tab')) (hlt : ∀ d ∈ po.wr, d < F.nt) (hw : wpO C po e s K) :
    Done F o K w tmps (AT.step at_ ⟨po, gd⟩) := by
  unfold compileOp at hc
  rw [ho] at hc
  simp only [Option.bind_eq_bind, Option.bind_eq_some_iff] at hc
  obtain ⟨d, hu, hc⟩ := hc
  split at hc
  · rename_i len el
    simp only [Option.bind_eq_some_iff] at hc
    obtain ⟨sz, hsz, sh, hsh, hc⟩ := hc
    refine sim_p hS hc hlt hw fun ys v h1 h2 => ?_
    simp only [Option.bind_eq_some_iff, Option.some.injEq] at h1
    obtain ⟨y, hy, z, hz, rfl⟩ := h1
    obtain ⟨r, hr, he⟩ := (ok_idx hu hsz hsh (hS.opd hy) (hS.opd hz) h2).next
    exact ⟨r, by simpa [execOp, ho] using hr, he⟩
  · cases hc

theorem sim_extract {x : Operand} {i : Nat} (hS : Sim F g w.heap s mine e tmps at_) (ho : o.op = .extract x i) (hc : compileOp F.X F.h ops tab o = some (po, tab')) (hlt : ∀ d ∈ po.wr, d < F.nt) (hw : wpO C po e s K) :
    Done F o K w tmps (AT.step at_ ⟨po, gd⟩) := by
  unfold compileOp at hc
  rw [ho] at hc
  refine sim_p hS hc hlt hw fun ys v h1 h2 => ?_
  simp only [Option.bind_eq_bind, Option.bind_eq_some_iff, Option.some.injEq] at h1
  obtain ⟨y, hy, rfl⟩ := h1
  obtain ⟨r, hr, he⟩ := (ok_ext (hS.opd hy) h2).next
  exact ⟨r, by simpa [execOp, ho] using hr, he⟩

theorem sim_unOp {u : UnOp} {t : TypeId} {x : Operand} (hS : Sim F g w.heap s mine e tmps at_) (ho : o.op = .unOp u t x) (hc : compileOp F.X F.h ops tab o = some (po, tab')) (hlt : ∀ d ∈ po.wr, d < F.nt) (hw : wpO C po e s K) :
    Done F o K w tmps (AT.step at_ ⟨po, gd⟩) := by
  unfold compileOp at hc
  rw [ho] at hc
  simp only at hc
  split at hc
  · refine sim_p hS hc hlt hw fun ys v h1 h2 => ?_
    simp only [Option.bind_eq_bind, Option.bind_eq_some_iff, Option.some.injEq] at h1
    obtain ⟨y, hy, rfl⟩ := h1
    obtain ⟨r, hr, he⟩ := (ok_not (hS.opd hy) h2).next
    exact ⟨r, by simpa [execOp, ho] using hr, he⟩
  · refine sim_p hS hc hlt hw fun ys v h1 h2 => ?_
    simp only [Option.bind_eq_bind, Option.bind_eq_some_iff, Option.some.injEq] at h1
    obtain ⟨y, hy, rfl⟩ := h1
    obtain ⟨r, hr, he⟩ := (ok_neg (hS.opd hy) h2).next
    exact ⟨r, by simpa [execOp, ho] using hr, he⟩
  · cases hc

theorem sim_makeFunc {fn : Fn} {first captured : Array Operand} (hS : Sim F g w.heap s mine e tmps at_) (ho : o.op = .makeFunc fn first captured) (hc : compileOp F.X F.h ops tab o = some (po, tab')) (hlt : ∀ d ∈ po.wr, d < F.nt) (hw : wpO C po e s K) :
    Done F o K w tmps (AT.step at_ ⟨po, gd⟩) := by
  unfold compileOp at hc
  rw [ho] at hc
  cases fn <;> first | (simp at hc; done) | skip
  rename_i f
  simp only [Option.bind_eq_bind, Option.bind_eq_some_iff] at hc
  obtain ⟨k, hk, hc⟩ := hc
  refine sim_p hS hc hlt hw fun ys v h1 h2 => ?_
  have hE := hS.opds h1
  simp only [pv] at h2
  split at h2
  · rename_i hn
    cases h2
    refine ⟨.func (.func f) (first.map (valOf tmps)) (captured.map (valOf tmps)), by simp [execOp, ho, Instr.makeFunc], ?_⟩
    have hsz := hE.1
    simp only [Array.map_append, Array.size_append, Array.size_map] at hsz
    refine .fn hk (by simp at hn ⊢; omega) (by simp at hsz ⊢; omega) ?_ ?_
    · intro j x hx
      rw [List.getElem?_take] at hx
      split at hx
      · rename_i hj
        have := hE.2 j x hx
        rw [Array.getD_eq_getD_getElem?] at this ⊢
        rw [Array.map_append, Array.getElem?_append_left (by simpa using hj)] at this
        exact this
      · cases hx
    · intro j x hx
      rw [List.getElem?_drop] at hx
      have := hE.2 _ x hx
      rw [Array.getD_eq_getD_getElem?] at this ⊢
      rw [Array.map_append, Array.getElem?_append_right (by simp)] at this
      simpa using this
  · cases h2

theorem sim_slice {t : TypeId} {x : Operand} {lo hi mx : Option Operand} (hS : Sim F g w.heap s mine e tmps at_) (ho : o.op = .slice t x lo hi mx) (hc : compileOp F.X F.h ops tab o = some (po, tab')) (hlt : ∀ d ∈ po.wr, d < F.nt) (hw : wpO C po e s K) :
    Done F o K w tmps (AT.step at_ ⟨po, gd⟩) := by
  unfold compileOp at hc
  rw [ho] at hc
  simp only [Option.bind_eq_bind, Option.bind_eq_some_iff] at hc
  obtain ⟨d, hu, hc⟩ := hc
  split at hc
  · rename_i el
    simp only [Option.bind_eq_some_iff] at hc
    obtain ⟨sz, hsz, hc⟩ := hc
    refine sim_p hS hc hlt hw fun ys v h1 h2 => ?_
    simp only [Option.bind_eq_some_iff, Option.some.injEq] at h1
    obtain ⟨y, hy, l, hl, h, hh, m, hm, rfl⟩ := h1
    have part : ∀ {a : Option Operand} {l : List Opd}, copt F.X F.h a = some l → ∃ q : Option V, l.map (ev e) = q.toList ∧ q.isSome = a.isSome ∧ (∀ z, q = some z → ∃ b, a.map (valOf tmps) = some b ∧ Enc F.X.nm g w.heap z b) ∧ (q = none → a.map (valOf tmps) = none) := by
      intro a l hl
      cases a with
      | none => simp only [copt, Option.some.injEq] at hl; subst hl; exact ⟨none, rfl, rfl, by simp, by simp⟩
      | some a =>
        simp only [copt, Option.map_eq_some_iff] at hl
        obtain ⟨y, hy, rfl⟩ := hl
        exact ⟨some (ev e y), rfl, rfl, fun z hz => by cases hz; exact ⟨_, rfl, hS.opd hy⟩, by simp⟩
    obtain ⟨ql, l1, l2, l3, l4⟩ := part hl
    obtain ⟨qh, m1, m2, m3, m4⟩ := part hh
    obtain ⟨qm, n1, n2, n3, n4⟩ := part hm
    rw [← l2, ← m2, ← n2] at h2
    obtain ⟨r, hr, he⟩ := (ok_slc hu hsz (hS.opd hy) l3 l4 m3 m4 n3 n4 (by simpa [l1, m1, n1] using h2)).next
    exact ⟨r, by simpa [execOp, ho] using hr, he⟩
  · cases hc

theorem sim_makeInterface {t : TypeId} {x : Operand} (hS : Sim F g w.heap s mine e tmps at_) (ho : o.op = .makeInterface t x) (hc : compileOp F.X F.h ops tab o = some (po, tab')) (hlt : ∀ d ∈ po.wr, d < F.nt) (hw : wpO C po e s K) :
    Done F o K w tmps (AT.step at_ ⟨po, gd⟩) := by
  unfold compileOp at hc
  rw [ho] at hc
  simp only at hc
  split at hc
  · cases hc
  · cases hc
  · rename_i d hu hni
    refine sim_p hS hc hlt hw fun ys v h1 h2 => ?_
    cases h1
    simp only [List.map_cons, List.map_nil, ev, pv, Option.some.injEq] at h2
    subst h2
    cases d <;> first
      | exact ⟨_, by simp [execOp, ho, Instr.makeInterface, run_underlying hni]; rfl, .undef _⟩
      | (exfalso; simp_all)

theorem cV_solid : ∀ {v : Value} {x : V}, cV v = some x → x.solid = true
  | .bool b, x, h => by simp only [cV, Option.some.injEq] at h; subst h; rfl
  | .int k n, x, h => by cases k <;> simp only [cV, reduceCtorEq, Option.some.injEq] at h; subst h; rfl
  | .map r, x, h => by cases r <;> simp only [cV, reduceCtorEq, Option.some.injEq] at h; subst h; rfl
  | .slice none 0 0, x, h => by simp only [cV, Option.some.injEq] at h; subst h; rfl
  | .slice none 0 (_ + 1), x, h => by simp [cV] at h
  | .slice none (_ + 1) _, x, h => by simp [cV] at h
  | .slice (some _) _ _, x, h => by simp [cV] at h
  | .nilFunc, x, h => by simp only [cV, Option.some.injEq] at h; subst h; rfl
  | .agg ⟨cs⟩, x, h => by
    simp only [cV, Option.map_eq_some_iff] at h
    obtain ⟨xs, hx, rfl⟩ := h
    rfl
  | .float _ _, _, h => by simp [cV] at h
  | .complex _ _ _, _, h => by simp [cV] at h
  | .string _, _, h => by simp [cV] at h
  | .pointer _, _, h => by simp [cV] at h
  | .chan _, _, h => by simp [cV] at h
  | .func _ _ _, _, h => by simp [cV] at h
  | .iface _ _, _, h => by simp [cV] at h
  | .nilIface, _, h => by simp [cV] at h
  | .tuple _, _, h => by simp [cV] at h

theorem EncL.vals {nm : FuncId → Option Nat} {H : Heap} {xs : List V} {vs : Array Value} (h : EncL nm g H xs vs) : ∀ (j : Nat) x v, xs[j]? = some x → vs.toList[j]? = some v → Enc nm g H x v := by
  intro j x v hx hv
  obtain ⟨v', h1, h2⟩ := h.get hx
  rw [Array.getElem?_toList] at hv
  obtain rfl := Option.some.inj (hv.symm.trans h1)
  exact h2
theorem mapM_fields {X : Ctx} {w : World} : ∀ (fs : List Field), (∀ f ∈ fs, (X.size f.type).isSome = true) → (fs.mapM (fun f => do pure (f.offset, ← sizeOf f.type)) : Sem (List (Nat × Nat))).run X.P w = .ok (fs.map fun f => (f.offset, (X.size f.type).getD 0)) w
  | [], _ => by simp
  | f :: fs, h => by
    obtain ⟨n, hn⟩ := Option.isSome_iff_exists.1 (h f (by simp))
    simp only [List.mapM_cons, Sem.run_bind, run_size hn, Result.andThen_ok, Sem.run_pure, mapM_fields fs fun f hf => h f (by simp [hf]), List.map_cons, hn, Option.getD_some]

theorem zip_map {α β γ : Type} (f : β → γ) : ∀ (l : List (α × β)), (l.map (·.1)).zip (l.map fun x => f x.2) = l.map fun x => (x.1, f x.2)
  | [] => rfl
  | x :: l => by simp [zip_map f l]

theorem sim_build {t : TypeId} {parts : Array (Nat × Operand)} (hS : Sim F g w.heap s mine e tmps at_) (ho : o.op = .build t parts) (hc : compileOp F.X F.h ops tab o = some (po, tab')) (hlt : ∀ d ∈ po.wr, d < F.nt) (hw : wpO C po e s K) :
    Done F o K w tmps (AT.step at_ ⟨po, gd⟩) := by
  unfold compileOp at hc
  rw [ho] at hc
  simp only [Option.bind_eq_bind, Option.bind_eq_some_iff] at hc
  obtain ⟨z, hz, d, hu, hc⟩ := hc
  obtain ⟨zv, hzr, hzc⟩ := run_zero hz w
  have hzE : EncL F.X.nm g w.heap z.cells zv.cells := (cV_enc zv z hzc).cells (solid_or (cV_solid hzc))
  have hlist : (parts.map fun ix => (ix.1, valOf tmps ix.2)).toList = (parts.toList.map (·.1)).zip (parts.toList.map fun ix => valOf tmps ix.2) := by
    rw [zip_map]; simp
  have hval : ∀ {ys : List Opd}, F.X.opds F.h (parts.map (·.2)) = some ys → (ys.map (ev e)).length = (parts.toList.map fun ix => valOf tmps ix.2).length ∧
      ∀ (j : Nat) x v, (ys.map (ev e))[j]? = some x → (parts.toList.map fun ix => valOf tmps ix.2)[j]? = some v → Enc F.X.nm g w.heap x v := by
    intro ys h1
    have hE := hS.opds h1
    have e1 : ((parts.map (·.2)).map (valOf tmps)).toList = parts.toList.map fun ix => valOf tmps ix.2 := by simp
    refine ⟨by have := hE.1; simp at this ⊢; exact this, ?_⟩
    rw [← e1]
    exact hE.vals
  split at hc
  · rename_i fs
    simp only [Option.bind_eq_some_iff] at hc
    obtain ⟨pl, hpl, hc⟩ := hc
    split at hc
    · cases hc
    · rename_i hall
      refine sim_p hS hc hlt hw fun ys v h1 h2 => ?_
      simp only [pv, Option.map_eq_some_iff] at h2
      obtain ⟨cs, h2, rfl⟩ := h2
      have hsz : ∀ f ∈ fs.toList, (F.X.size f.type).isSome = true := by
        have h0 : (fs.all fun f => (F.X.size f.type).isSome) = true := by
          revert hall
          cases (fs.all fun f => (F.X.size f.type).isSome) <;> simp
        intro f hf
        exact Array.all_eq_true_iff_forall_mem.1 h0 f (by simpa using hf)
      have hplace : ∀ (j : Nat) i p, (parts.toList.map (·.1))[j]? = some i → pl[j]? = some p → (fs.map fun f => (f.offset, (F.X.size f.type).getD 0))[i]? = some p := by
        have key : ∀ (l : List (Nat × Operand)) (pl : List (Nat × Nat)), l.mapM (fun ix => F.X.place fs ix.1) = some pl → ∀ (j : Nat) i p, (l.map (·.1))[j]? = some i → pl[j]? = some p → F.X.place fs i = some p := by
          intro l
          induction l with
          | nil => intro pl h j i p h1; simp at h1
          | cons x l ih =>
            intro pl h j i p h1 h2
            simp only [List.mapM_cons, Option.bind_eq_bind, Option.bind_eq_some_iff, Option.pure_def, Option.some.injEq] at h
            obtain ⟨p0, hp0, pl', hpl', rfl⟩ := h
            cases j with
            | zero => simp at h1 h2; subst h1 h2; exact hp0
            | succ j => exact ih pl' hpl' j i p (by simpa using h1) (by simpa using h2)
        intro j i p h1 h2
        have := key _ _ hpl j i p h1 h2
        unfold Ctx.place at this
        obtain ⟨f, hf, hm⟩ := Option.bind_eq_some_iff.1 this
        obtain ⟨n, hn, rfl⟩ := Option.map_eq_some_iff.1 hm
        simp [hf, hn]
      have hlen : (parts.toList.map (·.1)).length = pl.length := by
        have : ∀ (l : List (Nat × Operand)) (pl : List (Nat × Nat)), l.mapM (fun ix => F.X.place fs ix.1) = some pl → l.length = pl.length := by
          intro l
          induction l with
          | nil => intro pl h; simp at h; simp [h]
          | cons x l ih =>
            intro pl h
            simp only [List.mapM_cons, Option.bind_eq_bind, Option.bind_eq_some_iff, Option.pure_def, Option.some.injEq] at h
            obtain ⟨p0, hp0, pl', hpl', rfl⟩ := h
            simp [ih _ hpl']
        simpa using this _ _ hpl
      obtain ⟨hvl, hve⟩ := hval h1
      obtain ⟨c', hf, hE'⟩ := fill_run (parts.toList.map (·.1)) pl (ys.map (ev e)) _ z.cells cs zv.cells hlen hplace hvl hve hzE h2
      have hm : (fs.mapM (fun f => do pure (f.offset, ← sizeOf f.type)) : Sem (Array (Nat × Nat))).run F.X.P w = .ok (fs.map fun f => (f.offset, (F.X.size f.type).getD 0)) w := by
        rw [Array.mapM_eq_mapM_toList]
        simp only [Sem.run_map, mapM_fields fs.toList hsz, Result.andThen_ok]
        congr 1
        apply Array.ext'
        simp
      refine ⟨.agg c', ?_, .agg hE'.1 hE'.2⟩
      have hl' : ((parts.map fun x => (x.1, valOf tmps x.2)).toList) = (parts.toList.map (·.1)).zip (parts.toList.map fun ix => valOf tmps ix.2) := hlist
      simp only [execOp, ho, Instr.build, Sem.run_bind, hzr, run_underlying hu, Result.andThen_ok, hm, hl', hf, Sem.run_pure]
  · rename_i n el
    simp only [Option.bind_eq_some_iff] at hc
    obtain ⟨sz, hsz, hc⟩ := hc
    refine sim_p hS hc hlt hw fun ys v h1 h2 => ?_
    simp only [pv, Option.map_eq_some_iff] at h2
    obtain ⟨cs, h2, rfl⟩ := h2
    obtain ⟨hvl, hve⟩ := hval h1
    obtain ⟨c', hf, hE'⟩ := fill_run (place := fun i => some (i * sz, sz)) (parts.toList.map (·.1)) _ (ys.map (ev e)) _ z.cells cs zv.cells (by simp) (by
      intro j i p q1 q2
      simp only [List.getElem?_map, Option.map_eq_some_iff] at q1 q2
      obtain ⟨a, a1, rfl⟩ := q1
      obtain ⟨b, b1, rfl⟩ := q2
      obtain rfl := Option.some.inj (a1.symm.trans b1)
      rfl) hvl hve hzE h2
    refine ⟨.agg c', ?_, .agg hE'.1 hE'.2⟩
    have hl' : ((parts.map fun x => (x.1, valOf tmps x.2)).toList) = (parts.toList.map (·.1)).zip (parts.toList.map fun ix => valOf tmps ix.2) := hlist
    simp only [execOp, ho, Instr.build, Sem.run_bind, hzr, run_underlying hu, Result.andThen_ok, run_size hsz, hl', hf, Sem.run_pure]
  · cases hc

/-! ## Operators -/
theorem sim_binOp {op : BinOp} {t ty : TypeId} {x y : Operand} (hS : Sim F g w.heap s mine e tmps at_) (ho : o.op = .binOp op t x y ty) (hc : compileOp F.X F.h ops tab o = some (po, tab')) (hlt : ∀ d ∈ po.wr, d < F.nt) (hw : wpO C po e s K) :
    Done F o K w tmps (AT.step at_ ⟨po, gd⟩) := by
  unfold compileOp at hc
  rw [ho] at hc
  simp only at hc
  have eqs : ∀ (neg : Bool), op = (if neg then .neq else .eql) → ∀ k, F.X.P.eqGuardType F.X.P.depth t = false → F.X.kinds 8 t = some k → cval F.h tab o (.eq neg k) (do some [← F.X.opd F.h x, ← F.X.opd F.h y]) = some (po, tab') → Done F o K w tmps (AT.step at_ ⟨po, gd⟩) := by
    intro neg hop k hg hk hc
    refine sim_p hS hc hlt hw fun ys v h1 h2 => ?_
    simp only [Option.bind_eq_bind, Option.bind_eq_some_iff, Option.some.injEq] at h1
    obtain ⟨a, ha, b, hb, rfl⟩ := h1
    simp only [List.map_cons, List.map_nil, pv, Option.map_eq_some_iff] at h2
    obtain ⟨r, hr, rfl⟩ := h2
    unfold eqN at hr
    split at hr
    · rename_i hkx
      have hx := hS.opd ha
      have hy := hS.opd hb
      have heq := equal_run 8 t k hk (10000 - 8) g w _ _ _ _ r hx hy hkx hr
      refine ⟨.bool (r != neg), ?_, .bool _⟩
      have main : (do eqGuard op t x y (valOf tmps x) (valOf tmps y); binOp op t (valOf tmps x) (valOf tmps y) : Sem Value).run F.X.P w = .ok (.bool (r != neg)) w := by
        have gen : ∀ vx vy, (Op.equalIn 10000 t vx vy).run F.X.P w = .ok r w → (do pure (.bool (← Op.equal t vx vy)) : Sem Value).run F.X.P w = .ok (.bool r) w ∧ (do pure (.bool (!(← Op.equal t vx vy))) : Sem Value).run F.X.P w = .ok (.bool (!r)) w := by
          intro vx vy h
          have h' : (Op.equal t vx vy).run F.X.P w = .ok r w := h
          exact ⟨by simp [h'], by simp [h']⟩
        generalize ev e a = pa at hx hkx hr
        generalize ev e b = pb at hy hr
        cases k with
        | num =>
          cases pa <;> simp only [kindOk, reduceCtorEq, Bool.false_eq_true] at hkx
          cases pb <;> simp only [eqV, reduceCtorEq, Option.some.injEq] at hr
          rw [hx.of_int, hy.of_int, eqGuard_at_int]
          subst hr
          cases neg <;> simp at hop <;> subst hop <;> simp [binOp, Op.intCmp] <;> rfl
        | tru =>
          cases pa <;> simp only [kindOk, reduceCtorEq, Bool.false_eq_true] at hkx
          cases pb <;> simp only [eqV, reduceCtorEq, Option.some.injEq] at hr
          rw [hx.of_bool, hy.of_bool] at heq ⊢
          rw [eqGuard_at_bool]
          obtain ⟨g1, g2⟩ := gen _ _ heq
          cases neg <;> simp at hop <;> subst hop
          · simpa [binOp] using g1
          · simpa [binOp] using g2
        | row ks =>
          cases pa <;> simp only [kindOk, reduceCtorEq, Bool.false_eq_true] at hkx
          cases pb <;> simp only [eqV, reduceCtorEq] at hr
          obtain ⟨c, hvx, _⟩ := hx.of_agg
          obtain ⟨c', hvy, _⟩ := hy.of_agg
          rw [hvx, hvy] at heq ⊢
          obtain ⟨g1, g2⟩ := gen _ _ heq
          rw [Sem.run_bind, run_eqGuard_agg w op t x y c c' hg, Result.andThen_ok]
          cases neg <;> simp at hop <;> subst hop
          · simpa [binOp] using g1
          · simpa [binOp] using g2
      simp only [execOp, ho, Sem.run_bind, Sem.run_pure] at main ⊢
      rw [main]
      rfl
    · cases hr
  have nils : ∀ (neg : Bool), op = (if neg then .neq else .eql) → ∀ el, F.X.P.underlying t = some (.slice el) → y = .const (.slice none 0 0) → ((cdst F.h o).bind fun d => (F.X.opd F.h x).bind fun a => some (Op.isnil d neg a, tab)) = some (po, tab') → Done F o K w tmps (AT.step at_ ⟨po, gd⟩) := by
    intro neg hop el hu hy hc
    simp only [Option.bind_eq_some_iff, Option.some.injEq] at hc
    obtain ⟨d, hd, a, ha, hc⟩ := hc
    cases hc
    obtain ⟨h1, h2, _⟩ := cdst_inv hd
    have hat : ∀ z ∈ AT.step at_ ⟨.isnil d neg a, gd⟩, z ∈ at_ ∧ z.1 ≠ d := fun z hz => by
      rcases step_mem hz with h | h
      · simp [AT.adds] at h
      · simpa [AT.kills, Op.wr] using h
    have hx := hS.opd ha
    have run : ∀ (b : Option Addr) n c, valOf tmps x = .slice b n c → (execOp (valOf tmps) o).run F.X.P w = .ok (.value (.bool (b.isNone != neg))) w := by
      intro b n c hv
      have heq := run_equal_slice_nil (P := F.X.P) w t el b n c hu
      have hyv : valOf tmps y = .slice none 0 0 := by rw [hy]; rfl
      simp only [execOp, ho, hv, hyv, eqGuard_at_slice]
      cases neg <;> simp at hop <;> subst hop <;> simp [binOp, heq]
    simp only [wpO] at hw
    split at hw
    · rename_i c hxe
      rw [hxe] at hx
      rcases hx.of_lst with ⟨_, hv, _⟩ | ⟨b, base, sz, cap, vs, hv, _⟩
      · exact done_val hS h1 h2 (hlt d (by simp [Op.wr])) hat (hw _) ⟨_, run _ _ _ hv, .bool _⟩
      · exact done_val hS h1 h2 (hlt d (by simp [Op.wr])) hat (hw _) ⟨_, run _ _ _ hv, .bool _⟩
    · rename_i xs c hne hxe
      rw [hxe] at hx
      rcases hx.of_lst with ⟨h0, hv, _⟩ | ⟨b, base, sz, cap, vs, hv, _⟩
      · exact absurd h0 hne
      · exact done_val hS h1 h2 (hlt d (by simp [Op.wr])) hat hw ⟨_, run _ _ _ hv, by simpa using Enc.bool _⟩
    · exact hw.elim
  have bins : cval F.h tab o (.bin op) (do some [← F.X.opd F.h x, ← F.X.opd F.h y]) = some (po, tab') → Done F o K w tmps (AT.step at_ ⟨po, gd⟩) := by
    intro hc
    refine sim_p hS hc hlt hw fun ys v h1 h2 => ?_
    simp only [Option.bind_eq_bind, Option.bind_eq_some_iff, Option.some.injEq] at h1
    obtain ⟨a, ha, b, hb, rfl⟩ := h1
    simp only [List.map_cons, List.map_nil, pv] at h2
    have hx := hS.opd ha
    have hy := hS.opd hb
    generalize ev e a = pa at hx h2
    generalize ev e b = pb at hy h2
    cases pa <;> first | (simp [binV] at h2; done) | skip
    cases pb <;> first | (simp [binV] at h2; done) | skip
    obtain ⟨r, hr, he⟩ := run_bin (X := F.X) (g := g) (w := w) (t := t) h2 x y
    refine ⟨r, ?_, he⟩
    simp only [execOp, ho]
    rw [hx.of_int, hy.of_int]
    simp only [Sem.run_bind, Sem.run_pure] at hr ⊢
    rw [hr]
    rfl
  split at hc
  · split at hc
    · rename_i el hu
      exact nils false rfl el hu rfl hc
    · split at hc
      · cases hc
      · rename_i hg
        simp only [Option.bind_eq_bind, Option.bind_eq_some_iff] at hc
        obtain ⟨k, hk, hc⟩ := hc
        exact eqs false rfl k (by simpa using hg) hk (by simpa [Option.bind_eq_bind] using hc)
  · split at hc
    · rename_i el hu
      exact nils true rfl el hu rfl hc
    · split at hc
      · cases hc
      · rename_i hg
        simp only [Option.bind_eq_bind, Option.bind_eq_some_iff] at hc
        obtain ⟨k, hk, hc⟩ := hc
        exact eqs true rfl k (by simpa using hg) hk (by simpa [Option.bind_eq_bind] using hc)
  · exact bins hc

/-! ## Addresses -/
theorem baseOf_whole {h : Hint} {a : Operand} {p : Nat} (hb : baseOf h tab a = some (.whole p)) : a = .tmp p ∧ h.prom.contains p = true := by
  unfold baseOf at hb
  split at hb
  · rename_i q
    split at hb
    · rename_i hp; cases hb; exact ⟨rfl, hp⟩
    · split at hb <;> first | (cases hb; done) | skip
      simp only [Option.some.injEq] at hb
      split at hb <;> cases hb
  · cases hb
  · cases hb
theorem baseOf_loc {h : Hint} {a : Operand} {p q : Nat} (hb : baseOf h tab a = some (.loc p q)) : a = .tmp q ∧ h.prom.contains q = false := by
  unfold baseOf at hb
  split at hb
  · rename_i q
    split at hb
    · cases hb
    · rename_i hp
      split at hb <;> first | (cases hb; done) | skip
      · simp only [Option.some.injEq] at hb; cases hb; exact ⟨rfl, by simpa using hp⟩
      · simp only [Option.some.injEq] at hb
        split at hb <;> cases hb
  · cases hb
  · cases hb

/-- A promoted variable that holds something: its block. -/
theorem Sim.block (hS : Sim F g w.heap s mine e tmps at_) {p : Nat} (hp : F.h.prom.contains p = true) (hu : e p ≠ .undef) : ∃ b c el, tmps.getD p Go.undef = .pointer (some ⟨b, 0, none⟩) ∧ blk tmps p = some b ∧ w.heap[b]? = some (.cells c el (0, 0)) ∧
    EncL F.X.nm g w.heap (e p).cells c ∧ (∃ sh, (e p).fits sh = true) ∧ Acc F.wr F.kept mine p b := by
  rcases (SlotOk.prom hp).1 (hS.slots p) with h | ⟨b, c, el, h1, h2, h3⟩
  · exact absurd h hu
  · refine ⟨b, c, el, ?_, h1, h2, h3⟩
    unfold blk at h1
    split at h1
    · rename_i h; cases h1; exact h
    · cases h1
theorem fits_undef {sh : Sh} {x : V} (h : x.fits sh = true) : x ≠ .undef := by rintro rfl; cases sh <;> simp [V.fits, V.scal] at h
theorem takeAt_whole {sh : Sh} {x : V} (h : x.fits sh = true) : takeAt sh x.cells 0 = some x := by
  cases sh with
  | none => cases x <;> simp [V.fits, V.scal] at h <;> rfl
  | some n =>
    cases x <;> simp [V.fits] at h
    obtain ⟨rfl, _⟩ := h
    simp [takeAt, V.cells]
theorem cells_at {b : Nat} {c : Array Value} {el : TypeId} {cs : List V} {nm : FuncId → Option Nat} (hb : w.heap[b]? = some (.cells c el (0, 0))) (hc : EncL nm g w.heap cs c) : ∀ j x, cs[j]? = some x → ∃ v, cellH w.heap b (0 + j) = some v ∧ Enc nm g w.heap x v := by
  intro j x hx
  obtain ⟨v, h1, h2⟩ := hc.get hx
  exact ⟨v, by simp [cellH, hb, h1], h2⟩

theorem hat_of {i : Ins} {d : Nat} (h1 : AT.adds i = none) (h2 : i.op.wr = [d]) : ∀ y ∈ AT.step at_ i, y ∈ at_ ∧ y.1 ≠ d := fun y hy => by
  rcases step_mem hy with h | h
  · rw [h1] at h; cases h
  · refine ⟨h.1, ?_⟩
    have := h.2
    unfold AT.kills at this
    rw [h2] at this
    simp only [Bool.or_eq_false_iff] at this
    simpa using this.1

theorem sim_load {t : TypeId} {a : Operand} (hS : Sim F g w.heap s mine e tmps at_) (ho : o.op = .load t a) (hc : compileOp F.X F.h ops tab o = some (po, tab')) (hlt : ∀ d ∈ po.wr, d < F.nt) (hn : AT.needs at_ po = true) (hw : wpO C po e s K) :
    Done F o K w tmps (AT.step at_ ⟨po, gd⟩) := by
  unfold compileOp at hc
  rw [ho] at hc
  simp only [Option.bind_eq_bind, Option.bind_eq_some_iff] at hc
  obtain ⟨d, hd, sh, hsh, base, hb, hc⟩ := hc
  obtain ⟨h1, h2, _⟩ := cdst_inv hd
  split at hc
  · rename_i p
    cases hc
    obtain ⟨rfl, hp⟩ := baseOf_whole hb
    obtain ⟨hf, hK⟩ := hw
    obtain ⟨b, c, el, q1, _, q2, q3, _, _⟩ := hS.block hp (fits_undef hf)
    obtain ⟨v, hv, he⟩ := load_any (w := w) hsh (b := b) (base := 0) (o := 0) (cells_at q2 q3) (takeAt_whole hf)
    exact done_val hS h1 h2 (hlt d (by simp [Op.wr])) (hat_of rfl rfl) hK ⟨v, by simp [execOp, ho, valOf, q1, Instr.loadAt, Instr.sureAddr]; simp at hv; simp [hv], he⟩
  · rename_i p q
    cases hc
    obtain ⟨rfl, hq⟩ := baseOf_loc hb
    have hmem : (q, some p) ∈ at_ := by simpa [AT.needs, AT.wants] using hn
    simp only [wpO] at hw
    split at hw
    · rename_i off hoff
      split at hw
      · rename_i x hx
        obtain ⟨a1, a2, a3, b, a4, a5⟩ := hS.adr q p off hmem hoff
        obtain ⟨b', c, el, q1, q1', q2, q3, _, _⟩ := hS.block a1 a3
        obtain rfl := Option.some.inj (q1'.symm.trans a4)
        obtain ⟨v, hv, he⟩ := load_any (w := w) hsh (b := b') (base := 0) (o := off) (cells_at q2 q3) hx
        exact done_val hS h1 h2 (hlt d (by simp [Op.wr])) (hat_of rfl rfl) hw ⟨v, by simp [execOp, ho, valOf, a5, Instr.loadAt, Instr.sureAddr]; simp at hv; simp [hv], he⟩
      · exact hw.elim
    · exact hw.elim
  · refine sim_p hS hc hlt hw fun ys v g1 g2 => ?_
    simp only [Option.bind_eq_some_iff, Option.some.injEq] at g1
    obtain ⟨y, hy, rfl⟩ := g1
    obtain ⟨r, hr, he⟩ := (ok_eload hsh (hS.opd hy) g2).next
    exact ⟨r, by simpa [execOp, ho] using hr, he⟩
  · simp only [Option.bind_eq_some_iff, Option.some.injEq] at hc
    obtain ⟨y, hy, hc⟩ := hc
    cases hc
    have hx := hS.opd hy
    simp only [wpO] at hw
    split at hw
    · rename_i cs off hxe
      split at hw
      · rename_i x hx'
        rw [hxe] at hx
        obtain ⟨r, hr, he⟩ := (ok_eload hsh hx (by simpa [pv] using hx')).next
        exact done_val hS h1 h2 (hlt d (by simp [Op.wr])) (hat_of rfl rfl) hw ⟨r, by simpa [execOp, ho] using hr, he⟩
      · exact hw.elim
    · rename_i l off hxe
      split at hw
      · rename_i cs hl
        split at hw
        · rename_i x hx'
          rw [hxe] at hx
          obtain ⟨b, hv, hβ⟩ := hx.of_ptr
          obtain ⟨b', hβ', ⟨⟨c, el, q2, q3⟩, _⟩, _⟩ := hS.rel.obj l _ hl rfl
          obtain rfl := Option.some.inj (hβ'.symm.trans hβ)
          obtain ⟨v, hv', he⟩ := load_any (w := w) hsh (b := b') (base := 0) (o := off) (cells_at q2 q3) hx'
          exact done_val hS h1 h2 (hlt d (by simp [Op.wr])) (hat_of rfl rfl) hw ⟨v, by simp [execOp, ho, hv, Instr.loadAt, Instr.sureAddr]; simp at hv'; simp [hv'], he⟩
        · exact hw.elim
      · exact hw.elim
    · exact hw.elim

theorem hat_add {i : Ins} {d p : Nat} (h1 : AT.adds i = some (d, some p)) (h2 : i.op.wr = [d]) : ∀ y ∈ AT.step at_ i, (y ∈ at_ ∧ y.1 ≠ d) ∨ y = (d, some p) := fun y hy => by
  rcases step_mem hy with h | h
  · rw [h1] at h; cases h; exact .inr rfl
  · refine .inl ⟨h.1, ?_⟩
    have := h.2
    unfold AT.kills at this
    rw [h2] at this
    simp only [Bool.or_eq_false_iff] at this
    simpa using this.1

theorem done_off (hS : Sim F g w.heap s mine e tmps at_) {d p b off : Nat} {i : Ins} (hod : o.dst = some d) (hp : F.h.prom.contains d = false) (hd : d < F.nt) (hpp : F.h.prom.contains p = true) (hu : e p ≠ .undef) (hb : blk tmps p = some b)
    (h1 : AT.adds i = some (d, some p)) (h2 : i.op.wr = [d]) (hK : K (e.set d (.off off)) s) (hrun : (execOp (valOf tmps) o).run F.X.P w = .ok (.value (.pointer (some ⟨b, off, none⟩))) w) : Done F o K w tmps (AT.step at_ i) := by
  refine ⟨_, w, .inl hrun, by exact ⟨rfl, rfl⟩, e.set d (.off off), s, g, mine, hK, ?_⟩
  rw [hod]
  exact hS.setOff hp hd hpp hu hb (hat_add h1 h2)

theorem sim_fieldAddr {t : TypeId} {x : Operand} {f : Nat} (hS : Sim F g w.heap s mine e tmps at_) (ho : o.op = .fieldAddr t x f) (hc : compileOp F.X F.h ops tab o = some (po, tab')) (hlt : ∀ d ∈ po.wr, d < F.nt) (hn : AT.needs at_ po = true) (hw : wpO C po e s K) :
    Done F o K w tmps (AT.step at_ ⟨po, gd⟩) := by
  unfold compileOp at hc
  rw [ho] at hc
  simp only [Option.bind_eq_bind, Option.bind_eq_some_iff] at hc
  obtain ⟨d, hd, ⟨off, ft⟩, hf, sh, hsh, base, hb, hc⟩ := hc
  obtain ⟨h1, h2, _⟩ := cdst_inv hd
  have run : ∀ b o', valOf tmps x = .pointer (some ⟨b, o', none⟩) → (execOp (valOf tmps) o).run F.X.P w = .ok (.value (.pointer (some ⟨b, o' + off, none⟩))) w := by
    intro b o' hv
    obtain ⟨fs, fd, hu, h1, rfl, rfl⟩ := fieldOf_parts hf
    obtain ⟨d, _, hsz, hp, _⟩ := sh_parts hsh
    have hne : ¬ shN sh = 0 := by omega
    simp [execOp, ho, hv, Instr.fieldAt, run_underlying hu, h1, Instr.sureAddr, fieldPlace, run_size hsz, hne, Addr.add_lit]
  split at hc
  · rename_i p
    cases hc
    obtain ⟨rfl, hp⟩ := baseOf_whole hb
    simp only [wpO, offAt] at hw
    split at hw
    · rename_i cs n hep hn0
      cases hn0
      have hu : e p ≠ .undef := by rw [hep]; simp
      obtain ⟨b, c, el, q1, q1', q2, q3, _, _⟩ := hS.block hp hu
      exact done_off hS h1 h2 (hlt d (by simp [Op.wr])) hp hu q1' rfl rfl hw (run b 0 q1)
    · exact hw.elim
  · rename_i p q
    cases hc
    obtain ⟨rfl, hq⟩ := baseOf_loc hb
    have hmem : (q, some p) ∈ at_ := by simpa [AT.needs, AT.wants] using hn
    simp only [wpO, offAt] at hw
    split at hw
    · rename_i cs n hep hn0
      split at hn0
      · rename_i n' hq'
        cases hn0
        obtain ⟨a1, a2, a3, b, a4, a5⟩ := hS.adr q p n hmem hq'
        exact done_off hS h1 h2 (hlt d (by simp [Op.wr])) a1 a3 a4 rfl rfl hw (run b n a5)
      · cases hn0
    · exact hw.elim
  · simp only [Option.bind_eq_some_iff, Option.some.injEq] at hc
    obtain ⟨y, hy, hc⟩ := hc
    cases hc
    refine sim_p' hS h1 h2 (hlt d (by simp [Op.wr])) hw fun v g2 => ?_
    obtain ⟨r, hr, he⟩ := (ok_fa hf hsh (hS.opd hy) g2).next
    exact ⟨r, by simpa [execOp, ho] using hr, he⟩
  · simp only [Option.bind_eq_some_iff, Option.some.injEq] at hc
    obtain ⟨y, hy, hc⟩ := hc
    cases hc
    refine sim_p' hS h1 h2 (hlt d (by simp [Op.wr])) hw fun v g2 => ?_
    obtain ⟨r, hr, he⟩ := (ok_fa hf hsh (hS.opd hy) g2).next
    exact ⟨r, by simpa [execOp, ho] using hr, he⟩

theorem sim_indexAddr {t : TypeId} {x i : Operand} (hS : Sim F g w.heap s mine e tmps at_) (ho : o.op = .indexAddr t x i) (hc : compileOp F.X F.h ops tab o = some (po, tab')) (hlt : ∀ d ∈ po.wr, d < F.nt) (hn : AT.needs at_ po = true) (hw : wpO C po e s K) :
    Done F o K w tmps (AT.step at_ ⟨po, gd⟩) := by
  unfold compileOp at hc
  rw [ho] at hc
  simp only [Option.bind_eq_bind, Option.bind_eq_some_iff] at hc
  obtain ⟨d, hd, ix, hix, desc, hu, hc⟩ := hc
  obtain ⟨h1, h2, _⟩ := cdst_inv hd
  have hi := hS.opd hix
  split at hc
  · rename_i len el
    simp only [Option.bind_eq_some_iff] at hc
    obtain ⟨sz, hsz, base, hb, hc⟩ := hc
    have run : ∀ b o' (n : Int), valOf tmps x = .pointer (some ⟨b, o', none⟩) → ev e ix = .int n → 0 ≤ n → n < (len : Int) → (execOp (valOf tmps) o).run F.X.P w = .ok (.value (.pointer (some ⟨b, o' + n.toNat * sz, none⟩))) w := by
      intro b o' n hv hn0 hn1 hn2
      rw [hn0] at hi
      have hvi := hi.of_int
      simp [execOp, ho, hv, hvi, Instr.indexAt, asIntOf, run_underlying hu, Instr.sureAddr, hn1, hn2, run_size hsz, Addr.add_lit]
    split at hc
    · rename_i p
      cases hc
      obtain ⟨rfl, hp⟩ := baseOf_whole hb
      simp only [wpO, offAt] at hw
      split at hw
      · rename_i cs n ni hep hn0 hni
        cases hn0
        have hu' : e p ≠ .undef := by rw [hep]; simp
        obtain ⟨b, c, el, q1, q1', q2, q3, _, _⟩ := hS.block hp hu'
        exact done_off hS h1 h2 (hlt d (by simp [Op.wr])) hp hu' q1' rfl rfl hw.2.2 (run b 0 ni q1 hni hw.1 hw.2.1)
      · exact hw.elim
    · rename_i p q
      cases hc
      obtain ⟨rfl, hq⟩ := baseOf_loc hb
      have hmem : (q, some p) ∈ at_ := by simpa [AT.needs, AT.wants] using hn
      simp only [wpO, offAt] at hw
      split at hw
      · rename_i cs n ni hep hn0 hni
        split at hn0
        · rename_i n' hq'
          cases hn0
          obtain ⟨a1, a2, a3, b, a4, a5⟩ := hS.adr q p n hmem hq'
          exact done_off hS h1 h2 (hlt d (by simp [Op.wr])) a1 a3 a4 rfl rfl hw.2.2 (run b n ni a5 hni hw.1 hw.2.1)
        · cases hn0
      · exact hw.elim
    · simp only [Option.bind_eq_some_iff, Option.some.injEq] at hc
      obtain ⟨y, hy, hc⟩ := hc
      cases hc
      refine sim_p' hS h1 h2 (hlt d (by simp [Op.wr])) hw fun v g2 => ?_
      obtain ⟨r, hr, he⟩ := (ok_ia hu hsz (hS.opd hy) hi g2).next
      exact ⟨r, by simpa [execOp, ho] using hr, he⟩
    · simp only [Option.bind_eq_some_iff, Option.some.injEq] at hc
      obtain ⟨y, hy, hc⟩ := hc
      cases hc
      refine sim_p' hS h1 h2 (hlt d (by simp [Op.wr])) hw fun v g2 => ?_
      obtain ⟨r, hr, he⟩ := (ok_ia hu hsz (hS.opd hy) hi g2).next
      exact ⟨r, by simpa [execOp, ho] using hr, he⟩
  · rename_i el
    simp only [Option.bind_eq_some_iff, Option.some.injEq] at hc
    obtain ⟨sz, hsz, y, hy, hc⟩ := hc
    cases hc
    refine sim_p' hS h1 h2 (hlt d (by simp [Op.wr])) hw fun v g2 => ?_
    obtain ⟨r, hr, he⟩ := (ok_ea hu hsz (hS.opd hy) hi g2).next
    exact ⟨r, by simpa [execOp, ho] using hr, he⟩
  · cases hc
end
end Go.Hu

set_option linter.unusedSimpArgs false
set_option linter.unusedVariables false
namespace Go.Hu
section
variable {F : Fix} {g : Gh} {w : World} {s : St} {mine : Nat → Prop} {e : Env} {tmps : Array Value} {at_ at' : AT} {o : Oper} {K : Env → St → Prop} {ops : Array Oper} {tab tab' : Tab} {po : Op} {C : CP} {gd : Option (Nat × Bool)}

theorem enc_fits {nm : FuncId → Option Nat} {H : Heap} {x : V} {v : Value} {sh : Sh} (h : Enc nm g H x v) (hf : x.fits sh = true) : EncL nm g H x.cells v.cells ∧ v.cells.size = shN sh ∧ ∀ u ∈ v.cells.toList, u.oneCell' = true := by
  have h1 := h.cells (fits_or hf)
  refine ⟨h1, by rw [← h1.1, fits_len hf], ?_⟩
  intro u hu
  obtain ⟨j, hj, rfl⟩ := List.getElem_of_mem hu
  have hj' : j < x.cells.length := by rw [h1.1]; simpa using hj
  obtain ⟨v', q1, q2⟩ := h1.get (j := j) (x := x.cells[j]) (by simp [hj'])
  have := (q2.oneCell (fits_scal hf _ (List.getElem_mem hj'))).1
  simp only [Array.getElem_toList]
  rw [Array.getElem?_eq_some_iff] at q1
  obtain ⟨_, rfl⟩ := q1
  exact this

/-- A variable is written: its cells in the heap. -/
theorem run_write {X : Ctx} {t : TypeId} {sh : Sh} {x : V} {v : Value} {b off : Nat} {c : Array Value} {el : TypeId} (hsh : X.sh t = some sh) (hx : Enc X.nm g w.heap x v) (hf : x.fits sh = true)
    (hb : w.heap[b]? = some (.cells c el (0, 0))) (hl : off + shN sh ≤ c.size) :
    (storeVar t ⟨b, off, none⟩ v).run X.P w = .ok () (w.setRow b (putA c off v.cells)) := by
  obtain ⟨h1, h2, h3⟩ := enc_fits hx hf
  obtain ⟨_, _, hsz, _, _⟩ := sh_parts hsh
  have := run_storeCells_at X.P b off el v.cells.toList 0 c w hb (by simp; omega) h3
  simp only [Nat.add_zero] at this
  have e : (c.toList.take off ++ v.cells.toList ++ c.toList.drop (off + v.cells.toList.length)).toArray = putA c off v.cells := by simp [putA]
  rw [e] at this
  simp only [storeVar, Sem.run_bind, run_size hsz, Result.andThen_ok, h2, ne_eq, not_true_eq_false, if_false, this]

theorem setRow_at {b : Nat} {c : Array Value} {el : TypeId} (hb : w.heap[b]? = some (.cells c el (0, 0))) (c' : Array Value) : (w.setRow b c').heap[b]? = some (.cells c' el (0, 0)) ∧ (w.setRow b c').heap.size = w.heap.size ∧ ∀ b', b' ≠ b → (w.setRow b c').heap[b']? = w.heap[b']? :=
  ⟨setRow_heap w b c c' el (0, 0) hb, setRow_size w b c', fun b' h => setRow_other w b b' c' h⟩

theorem run_alloc {X : Ctx} {t : TypeId} {zv : Value} (hz : (zeroValue t).run X.P w = .ok zv w) : (Instr.alloc t true (.tuple #[])).run X.P w = .ok (.pointer (some ⟨w.heap.size, 0, none⟩)) { w with heap := w.heap.push (.cells zv.cells t) } := by
  simp [Instr.alloc, hz, newVar, newRow]
theorem run_box {X : Ctx} {t : TypeId} {v : Value} : (Instr.box t v).run X.P w = .ok (.pointer (some ⟨w.heap.size, 0, none⟩)) { w with heap := w.heap.push (.cells v.cells t) } := by
  simp [Instr.box, newVar, newRow]

/-- A variable is laid anew: promoted, read only, or in the pure heap. -/
theorem laid {p : Nat} {x : V} {v : Value} {sh : Sh} {t : TypeId} (hS : Sim F g w.heap s mine e tmps at_) (hod : o.dst = some p) (hd : p < F.nt) (hx : Enc F.X.nm g w.heap x v) (hf : x.fits sh = true)
    (hrun : (execOp (valOf tmps) o).run F.X.P w = .ok (.value (.pointer (some ⟨w.heap.size, 0, none⟩))) { w with heap := w.heap.push (.cells v.cells t) }) :
    (∀ i : Ins, i.op.wr = [p] → AT.adds i = none → (∀ y, AT.kills i y = false → y.2 ≠ some p) → F.h.prom.contains p = true → F.wr p = true → K (e.set p x) s → Done F o K w tmps (AT.step at_ i)) ∧
    (∀ i : Ins, i.op.wr = [p] → AT.adds i = none → F.h.prom.contains p = false → K (e.set p (.rptr x.cells 0)) s → Done F o K w tmps (AT.step at_ i)) ∧
    (∀ i : Ins, i.op.wr = [p] → AT.adds i = none → F.h.prom.contains p = false → (∀ l, s l = none → K (e.set p (.ptr l 0)) (s.set l (.cells x.cells))) → Done F o K w tmps (AT.step at_ i)) ∧
    (∀ i : Ins, i.op.wr = [p] → AT.adds i = some (p, none) → F.h.prom.contains p = false → K (e.set p (.pend (shN sh))) s → Done F o K w tmps (AT.step at_ i)) := by
  obtain ⟨h1, h2, h3⟩ := enc_fits hx hf
  obtain ⟨hS1, hfree⟩ := hS.push (.cells v.cells t)
  have hst : Stays g w.heap (w.heap.push (.cells v.cells t)) := stays_push hS.rel _
  refine ⟨?_, ?_, ?_, ?_⟩
  · intro i iw ia ik hp hw hK
    refine ⟨_, _, .inl hrun, by exact ⟨rfl, rfl⟩, e.set p x, s, g, (fun b => mine b ∨ b = w.heap.size), hK, ?_⟩
    rw [hod]
    exact hS.newProm hp hd hw h1 ⟨sh, hf⟩ fun y hy => by
      obtain ⟨m1, m2⟩ := hat_of ia iw y hy
      refine ⟨m1, m2, ?_⟩
      rcases step_mem hy with h | h
      · rw [ia] at h; cases h
      · exact ik y h.2
  · intro i iw ia hp hK
    have hS2 := hS1.newZ (n := x.cells.length) hfree (fun j hj => by rw [cellH_push]; exact ⟨v.cells[j]'(by rw [← h1.1]; exact hj), by simp [← h1.1, hj]⟩)
    refine ⟨_, _, .inl hrun, by exact ⟨rfl, rfl⟩, _, s, g.withZ w.heap.size 0 x.cells.length, mine, hK, ?_⟩
    rw [hod]
    exact hS2.setVal hp hd (Enc.rptr_new (push_new _ _) (h1.mono (.refl g) hst) (Nat.le_refl _)) (hat_of ia iw)
  · intro i iw ia hp hK
    obtain ⟨l, hl⟩ := hS1.fresh
    have hle := Gh.le_withObj (g := g) (l := l) (b := w.heap.size) (K := fun _ => False) hl.2.1
    have hS2 := hS1.newObj (o := .cells x.cells) hl hfree (by simp) rfl ⟨⟨v.cells, t, push_new _ _, (h1.mono (.refl g) hst).mono hle (.refl _ _)⟩, fits_scal hf⟩ (by simp)
    refine ⟨_, _, .inl hrun, by exact ⟨rfl, rfl⟩, _, _, g.withObj l w.heap.size (fun _ => False), mine, hK l hl.1, ?_⟩
    rw [hod]
    exact hS2.setVal hp hd (.ptr (by simp [Gh.withObj])) (hat_of ia iw)
  · intro i iw ia hp hK
    refine ⟨_, _, .inl hrun, by exact ⟨rfl, rfl⟩, _, s, g, (fun b => mine b ∨ b = w.heap.size), hK, ?_⟩
    rw [hod, ← h2]
    exact hS.newPend hp hd fun y hy => by
      rcases step_mem hy with h | h
      · rw [ia] at h; cases h; exact .inr rfl
      · refine .inl ⟨h.1, ?_⟩
        have := h.2
        unfold AT.kills at this
        rw [iw] at this
        simp only [Bool.or_eq_false_iff] at this
        simpa using this.1

theorem kills_lput {p : Nat} {sh : Sh} {x : Opd} : ∀ y, AT.kills ⟨.lput p sh x, gd⟩ y = false → y.2 ≠ some p := by
  intro y h
  unfold AT.kills at h
  simp only [Bool.or_eq_false_iff] at h
  simpa using h.2

theorem sim_alloc {t : TypeId} (hS : Sim F g w.heap s mine e tmps at_) (ho : o.op = .alloc t) (hc : compileOp F.X F.h ops tab o = some (po, tab')) (hlt : ∀ d ∈ po.wr, d < F.nt) (hwr : ∀ p ∈ po.pw, F.wr p = true) (hw : wpO C po e s K) :
    Done F o K w tmps (AT.step at_ ⟨po, gd⟩) := by
  unfold compileOp at hc
  rw [ho] at hc
  simp only [Option.bind_eq_bind, Option.bind_eq_some_iff] at hc
  obtain ⟨p, hod, z, hz, sh, hsh, hc⟩ := hc
  obtain ⟨zv, hzr, hzc⟩ := run_zero hz w
  split at hc
  · cases hc
  · rename_i hf
    have hf : z.fits sh = true := by simpa using hf
    have hrun : (execOp (valOf tmps) o).run F.X.P w = .ok (.value (.pointer (some ⟨w.heap.size, 0, none⟩))) { w with heap := w.heap.push (.cells zv.cells t) } := by
      simp [execOp, ho, run_alloc hzr]
    have hx : Enc F.X.nm g w.heap z zv := cV_enc zv z hzc
    split at hc
    · rename_i hp
      cases hc
      exact (laid hS hod (hlt p (by simp [Op.wr])) hx hf hrun).1 ⟨_, gd⟩ rfl rfl kills_lput hp (hwr p (by simp [Op.pw])) hw.2
    · rename_i hp
      have hp : F.h.prom.contains p = false := by simpa using hp
      split at hc
      · cases hc
        exact (laid hS hod (hlt p (by simp [Op.wr])) hx hf hrun).2.2.2 ⟨_, gd⟩ rfl rfl hp hw
      · split at hc
        · cases hc
          exact (laid hS hod (hlt p (by simp [Op.wr])) hx hf hrun).2.1 ⟨_, gd⟩ rfl rfl hp hw.2
        · cases hc
          exact (laid hS hod (hlt p (by simp [Op.wr])) hx hf hrun).2.2.1 ⟨_, gd⟩ rfl rfl hp hw.2

theorem sim_box {t : TypeId} {x : Operand} (hS : Sim F g w.heap s mine e tmps at_) (ho : o.op = .box t x) (hc : compileOp F.X F.h ops tab o = some (po, tab')) (hlt : ∀ d ∈ po.wr, d < F.nt) (hwr : ∀ p ∈ po.pw, F.wr p = true) (hw : wpO C po e s K) :
    Done F o K w tmps (AT.step at_ ⟨po, gd⟩) := by
  unfold compileOp at hc
  rw [ho] at hc
  simp only [Option.bind_eq_bind, Option.bind_eq_some_iff] at hc
  obtain ⟨p, hod, y, hy, sh, hsh, hc⟩ := hc
  have hrun : (execOp (valOf tmps) o).run F.X.P w = .ok (.value (.pointer (some ⟨w.heap.size, 0, none⟩))) { w with heap := w.heap.push (.cells (valOf tmps x).cells t) } := by
    simp [execOp, ho, run_box]
  have hx := hS.opd hy
  split at hc
  · rename_i hp
    cases hc
    exact (laid hS hod (hlt p (by simp [Op.wr])) hx hw.1 hrun).1 ⟨_, gd⟩ rfl rfl kills_lput hp (hwr p (by simp [Op.pw])) hw.2
  · rename_i hp
    have hp : F.h.prom.contains p = false := by simpa using hp
    split at hc
    · cases hc
      exact (laid hS hod (hlt p (by simp [Op.wr])) hx hw.1 hrun).2.1 ⟨_, gd⟩ rfl rfl hp hw.2
    · cases hc
      exact (laid hS hod (hlt p (by simp [Op.wr])) hx hw.1 hrun).2.2.1 ⟨_, gd⟩ rfl rfl hp hw.2

theorem ev_tmp {e : Env} {n : Nat} : ev e (.t n) = e n := rfl
theorem putAt_whole {xs ys : List V} (h : xs.length = ys.length) : putAt xs 0 ys = some ys := by
  unfold putAt
  rw [if_pos (by omega)]
  simp [h]
theorem hat_sub {i : Ins} (h1 : AT.adds i = none) : ∀ y ∈ AT.step at_ i, y ∈ at_ := fun y hy => by
  rcases step_mem hy with h | h
  · rw [h1] at h; cases h
  · exact h.1

theorem sim_store {t : TypeId} {a x : Operand} (hS : Sim F g w.heap s mine e tmps at_) (ho : o.op = .store t a x) (hc : compileOp F.X F.h ops tab o = some (po, tab')) (hdst : po.dst = o.dst) (hlt : ∀ d ∈ po.wr, d < F.nt) (hn : AT.needs at_ po = true) (hwr : ∀ p ∈ po.pw, F.wr p = true) (hw : wpO C po e s K) :
    Done F o K w tmps (AT.step at_ ⟨po, gd⟩) := by
  unfold compileOp at hc
  rw [ho] at hc
  simp only [Option.bind_eq_bind, Option.bind_eq_some_iff] at hc
  obtain ⟨v, hv, sh, hsh, base, hb, hc⟩ := hc
  have hx := hS.opd hv
  obtain ⟨_, _, _, hpos, _⟩ := sh_parts hsh
  have run : ∀ b off c el, valOf tmps a = .pointer (some ⟨b, off, none⟩) → w.heap[b]? = some (.cells c el (0, 0)) → (ev e v).fits sh = true → off + shN sh ≤ c.size →
      (execOp (valOf tmps) o).run F.X.P w = .ok .skip (w.setRow b (putA c off (valOf tmps x).cells)) := by
    intro b off c el h1 h2 h3 h4
    simp [execOp, ho, h1, Instr.storeAt, Instr.sureAddr, run_write hsh hx h3 h2 h4]
  split at hc
  · rename_i p
    cases hc
    obtain ⟨rfl, hp⟩ := baseOf_whole hb
    obtain ⟨hf, hfx, hK⟩ := hw
    have hu := fits_undef hf
    obtain ⟨b, c, el, q1, q1', q2, q3, _, _⟩ := hS.block hp hu
    obtain ⟨e1, e2, e3⟩ := enc_fits hx hfx
    have hcs : c.size = shN sh := by rw [← q3.1, fits_len hf]
    have hod : o.dst = none := by rw [← hdst]; rfl
    obtain ⟨s1, s2, s3⟩ := setRow_at q2 (putA c 0 (valOf tmps x).cells)
    refine ⟨undef, _, .inr ⟨run b 0 c el q1 q2 hfx (by omega), rfl⟩, by exact ⟨rfl, rfl⟩, _, s, g, mine, hK, ?_⟩
    rw [hod]
    exact (hS.setProm hp hu (hwr p (by simp [Op.pw])) q1' s2 s3 s1 (q3.put e1 (putAt_whole (by rw [fits_len hf, fits_len hfx]))) ⟨sh, hfx⟩).forget (hat_sub rfl)
  · rename_i p q
    cases hc
    obtain ⟨rfl, hq⟩ := baseOf_loc hb
    have hmem : (q, some p) ∈ at_ := by simpa [AT.needs, AT.wants] using hn
    simp only [wpO] at hw
    split at hw
    · rename_i off hoff
      obtain ⟨hfx, hw⟩ := hw
      split at hw
      · rename_i cs hcs
        split at hw
        · rename_i cs' hput
          obtain ⟨a1, a2, a3, b, a4, a5⟩ := hS.adr q p off hmem hoff
          obtain ⟨b', c, el, q1, q1', q2, q3, ⟨sh', hfp⟩, _⟩ := hS.block a1 a3
          obtain rfl := Option.some.inj (q1'.symm.trans a4)
          obtain ⟨e1, e2, e3⟩ := enc_fits hx hfx
          rw [hcs] at q3 hfp
          obtain ⟨l1, l2⟩ := putAt_len hput
          have hod : o.dst = none := by rw [← hdst]; rfl
          have hle : off + shN sh ≤ c.size := by rw [← q3.1, ← fits_len hfx]; exact l2
          obtain ⟨s1, s2, s3⟩ := setRow_at q2 (putA c off (valOf tmps x).cells)
          refine ⟨undef, _, .inr ⟨run b' off c el a5 q2 hfx hle, rfl⟩, by exact ⟨rfl, rfl⟩, _, s, g, mine, hw, ?_⟩
          rw [hod]
          refine (hS.setProm (x := .agg cs') a1 a3 (hwr p (by simp [Op.pw])) q1' s2 s3 s1 (q3.put e1 hput) ⟨some cs'.length, ?_⟩).forget (hat_sub rfl)
          simp only [V.fits, beq_self_eq_true, Bool.true_and, List.all_eq_true]
          intro y hy
          obtain ⟨j, hj, rfl⟩ := List.getElem_of_mem hy
          have hg := putAt_get hput j
          rw [List.getElem?_eq_getElem hj] at hg
          split at hg
          · exact fits_scal hfx _ (List.mem_of_getElem? hg.symm)
          · exact fits_scal hfp _ (List.mem_of_getElem? hg.symm)
        · exact hw.elim
      · exact hw.elim
    · exact hw.elim
  · rename_i q _ _
    split at hc
    · have pendgo : ∀ po', (AT.needs at_ po' = true → (q, none) ∈ at_) → po'.dst = o.dst → AT.needs at_ po' = true → (∀ d ∈ po'.wr, d < F.nt) → po'.wr = [q] → AT.adds ⟨po', gd⟩ = none → e q = .pend (shN sh) → (ev e v).fits sh = true → o.dst = none →
          (K (e.set q (.rptr (ev e v).cells 0)) s ∨ ∀ l, s l = none → K (e.set q (.ptr l 0)) (s.set l (.cells (ev e v).cells))) → Done F o K w tmps (AT.step at_ ⟨po', gd⟩) := by
        intro po' hm hd' hn' hlt' hwr' hadd hpe hfx hod hK
        obtain ⟨b, c, el, p1, p2, p3, p4, p5, p6, p7⟩ := hS.pendOut (at' := AT.step at_ ⟨po', gd⟩) (hm hn') hpe (hat_of hadd hwr')
        obtain ⟨e1, e2, e3⟩ := enc_fits hx hfx
        obtain ⟨s1, s2, s3⟩ := setRow_at p2 (putA c 0 (valOf tmps x).cells)
        have hr := run b 0 c el (by simpa [valOf] using p1) p2 hfx (by omega)
        have hrel : Rel F.X g (w.setRow b (putA c 0 (valOf tmps x).cells)).heap s F.kept (fun b' => mine b' ∧ b' ≠ b) := p7.rel.touch (b0 := b) (by omega) (fun b' _ h => s3 b' h) (fun _ => ⟨p6.kept, p6.z, p6.obj, p6.tok⟩)
        have hst : Stays g w.heap (w.setRow b (putA c 0 (valOf tmps x).cells)).heap := fun b' j hz => cellH_congr (s3 b' fun h => p6.z j (h ▸ hz))
        have hS1 := p7.heap hrel ⟨.refl g, hst, fun b' hb' => s3 b' fun h => p6.kept (h ▸ hb'), by omega, fun _ _ h => .inl h, fun _ L h => ⟨L, h, fun _ h => h⟩, fun _ _ _ _ h => h, fun _ h => h⟩ (fun b' hb' => s3 b' hb'.2)
        have hcE : EncL F.X.nm g (w.setRow b (putA c 0 (valOf tmps x).cells)).heap (ev e v).cells (putA c 0 (valOf tmps x).cells) := by
          have : putA c 0 (valOf tmps x).cells = (valOf tmps x).cells := by
            apply Array.ext'
            simp [putA]
            omega
          have e4 := e1.mono (.refl g) hst
          revert e4
          generalize (w.setRow b (putA c 0 (valOf tmps x).cells)).heap = HH
          rw [this]
          exact id
        have hset : ∀ y : V, (e.set q .undef).set q y = e.set q y := fun y => by funext t; unfold Env.set; split <;> rfl
        have htm : tmps.setIfInBounds q (.pointer (some ⟨b, 0, none⟩)) = tmps := by
          have hsz : q < tmps.size := by rw [hS.size]; exact hlt' q (by rw [hwr']; simp)
          apply Array.ext
          · simp
          · intro j h1 h2
            rw [Array.getElem_setIfInBounds]
            split
            · rename_i h
              subst h
              have := p1
              simp [Array.getD, hsz] at this
              exact this.symm
            · rfl
        rcases hK with hK | hK
        · have hS2 := hS1.newZ (n := (ev e v).cells.length) p6 (fun j hj => by simp only [cellH, s1]; exact ⟨(putA c 0 (valOf tmps x).cells)[j]'(by rw [← hcE.1]; exact hj), by simp [← hcE.1, hj]⟩)
          have hS3 := hS2.setVal (at' := AT.step at_ ⟨po', gd⟩) p4 (hlt' q (by rw [hwr']; simp)) (Enc.rptr_new s1 hcE (Nat.le_refl _)) (fun y hy => ⟨hy, (hat_of hadd hwr' y hy).2⟩)
          refine ⟨undef, _, .inr ⟨hr, rfl⟩, by exact ⟨rfl, rfl⟩, _, s, g.withZ b 0 (ev e v).cells.length, (fun b' => mine b' ∧ b' ≠ b), hK, ?_⟩
          rw [hod]
          rw [hset, htm] at hS3
          exact hS3
        · obtain ⟨l, hl⟩ := hS1.fresh
          have hle := Gh.le_withObj (g := g) (l := l) (b := b) (K := fun _ => False) hl.2.1
          have hS2 := hS1.newObj (o := .cells (ev e v).cells) hl p6 (by omega) rfl ⟨⟨_, el, s1, hcE.mono hle (.refl _ _)⟩, fits_scal hfx⟩ (by simp)
          have hS3 := hS2.setVal (at' := AT.step at_ ⟨po', gd⟩) p4 (hlt' q (by rw [hwr']; simp)) (x := .ptr l 0) (v := .pointer (some ⟨b, 0, none⟩)) (.ptr (by simp [Gh.withObj])) (fun y hy => ⟨hy, (hat_of hadd hwr' y hy).2⟩)
          refine ⟨undef, _, .inr ⟨hr, rfl⟩, by exact ⟨rfl, rfl⟩, _, _, g.withObj l b (fun _ => False), (fun b' => mine b' ∧ b' ≠ b), hK l hl.1, ?_⟩
          rw [hod]
          rw [hset, htm] at hS3
          exact hS3
      split at hc
      · cases hc
        obtain ⟨h1, h2, h3⟩ := hw
        exact pendgo _ (fun h => by simpa [AT.needs, AT.wants] using h) hdst hn hlt rfl rfl h1 h2 (by rw [← hdst]; rfl) (.inl h3)
      · cases hc
        obtain ⟨h1, h2, h3⟩ := hw
        exact pendgo _ (fun h => by simpa [AT.needs, AT.wants] using h) hdst hn hlt rfl rfl h1 h2 (by rw [← hdst]; rfl) (.inr h3)
    · cases hc
      simp only [wpO, ev_tmp] at hw
      split at hw
      · rename_i l off hq
        split at hw
        · rename_i cs hl
          obtain ⟨hfx, hw⟩ := hw
          split at hw
          · rename_i cs' hput
            by_cases hpq : F.h.prom.contains q = true
            · unfold baseOf at hb
              simp only [hpq, if_true] at hb
              cases hb
              simp_all
            · have hpq : F.h.prom.contains q = false := by simpa using hpq
              have hqE := (SlotOk.val hpq).1 (hS.slots q)
              rw [hq] at hqE
              obtain ⟨b, hvq, hβ⟩ := hqE.of_ptr
              obtain ⟨b', hβ', ⟨⟨c, el, q2, q3⟩, qs⟩, hk1, hm1⟩ := hS.rel.obj l _ hl rfl
              obtain rfl := Option.some.inj (hβ'.symm.trans hβ)
              obtain ⟨e1, e2, e3⟩ := enc_fits hx hfx
              obtain ⟨l1, l2⟩ := putAt_len hput
              have hod : o.dst = none := by rw [← hdst]; rfl
              have hle : off + shN sh ≤ c.size := by rw [← q3.1, ← fits_len hfx]; exact l2
              obtain ⟨s1, s2, s3⟩ := setRow_at q2 (putA c off (valOf tmps x).cells)
              obtain ⟨r1, r2⟩ := hS.rel.setObj (o' := .cells cs') hl rfl hβ s2 s3 rfl (by simp) (fun hk hst => ⟨⟨_, el, s1, (q3.put e1 hput).mono (.refl g) hst⟩, by
                intro y hy
                obtain ⟨j, hj, rfl⟩ := List.getElem_of_mem hy
                have hg := putAt_get hput j
                rw [List.getElem?_eq_getElem hj] at hg
                split at hg
                · exact fits_scal hfx _ (List.mem_of_getElem? hg.symm)
                · exact qs _ (List.mem_of_getElem? hg.symm)⟩)
              refine ⟨undef, _, .inr ⟨run b' off c el (by simpa [valOf] using hvq) q2 hfx hle, rfl⟩, by exact ⟨rfl, rfl⟩, _, _, g, mine, hw, ?_⟩
              rw [hod]
              exact (hS.heap r1 r2 fun b hb => s3 b fun h => hm1 (h ▸ hb)).forget (hat_sub rfl)
          · exact hw.elim
        · exact hw.elim
      · exact hw.elim
  · cases hc
end
end Go.Hu
