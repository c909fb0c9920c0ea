/- An engine of values, proved sound for the model, used for the proof: part 1. No conditions. -/
import Derived.Orders
import GoSem.ClaimData
import Derived.Laws.AppendOwn
import Derived.Tactics
import Derived.Deep.MidRow
import Derived.Laws.OwnMore
import Derived.Laws.MakeOwn
import Derived.Laws.StructEq
import Derived.DataElems
import Derived.Great.FillDense
import Derived.Laws.BytesString
import Derived.OwnWalk
set_option linter.all false
namespace Go.Proofs.YtedhpmhlmdcpbaaGreatDoor.E
open Go
set_option maxRecDepth 100000
set_option maxHeartbeats 0
inductive Ty where
 | int (k:IntKind) | bool | str | sl (el:Nat) (e:Ty) | pair (a b:Ty)
 deriving DecidableEq
@[reducible] def Ty.den:Ty → Type
 | .int _ => Int
 | .bool => Bool
 | .str => ByteArray
 | .sl _ e => List e.den
 | .pair a b => a.den×b.den
def Ty.size:Ty → Nat
 | .pair a b => a.size + b.size
 | _ => 1
def Ty.flat:Ty → Bool
 | .sl _ _ => false
 | .pair a b => a.flat&&b.flat
 | _ => true
def Ty.zero:(t:Ty) → t.den
 | .int _ => (0:Int)
 | .bool => false
 | .str => (⟨#[]⟩:ByteArray)
 | .sl _ _ => []
 | .pair a b => (a.zero,b.zero)
inductive NZ where
 | nil | non | any | may (b:Bool)
 deriving DecidableEq
inductive Pl where
 | T (i:Nat) | B (i:Nat) | R (i c:Nat) | F | X (j c:Nat) | K (i:Nat)
 deriving DecidableEq
inductive Cell where
 | undef
 | int (k:IntKind) (n:Int)
 | bool (b:Bool)
 | str (s:ByteArray)
 | nil (el:Nat) (e:Ty)
 | sl (z:NZ) (el:Nat) (e:Ty) (l:List e.den)
 | own (z:NZ) (d:Bool) (el:Nat) (e:Ty) (l:List e.den)
 | row (i c ver:Nat)
 | ptr (b ver off:Nat)
 | eptr (i c ver k sz off:Nat)
 | sptr (e:Ty) (x:e.den) (off:Nat)
 | fptr (f:Nat) (e:Ty) (x:e.den)            -- a box that is read alone: it holds function f,which has caught x
 | fn (f:Nat) (caps:List Cell)
inductive RV where
 | val (agg:Bool) (cs:List Cell)
 | tup (vs:List (Bool×List Cell))
structure Row where
 fz:Bool
 z:NZ
 d:Bool
 el:Nat
 e:Ty
 l:List e.den
inductive LV where
 | t (rv:RV)
 | b (ver:Nat) (fz:Bool) (cs:List Cell)
 | r (ver:Nat) (row:Option Row)
 | k (v:Option (Option Bool))                  -- what is known of a temporary: a bool,or nothing lies there
abbrev St := Pl → LV
def St.set (s:St) (l:Pl) (v:LV):St := fun m => if m = l then v else s m
inductive Prg (α:Type):Type where
 | pure (a:α)
 | get (l:Pl) (k:LV → Prg α)
 | set (l:Pl) (v:LV) (k:Prg α)
 | br (b:Bool) (x y:Prg α)
 | fail
namespace Prg
def bind {α β:Type}:Prg α → (α → Prg β) → Prg β
 | .pure a,f => f a
 | .get l k,f => .get l fun v => (k v).bind f
 | .set l v k,f => .set l v (k.bind f)
 | .br b x y,f => .br b (x.bind f) (y.bind f)
 | .fail,_ => .fail
instance:Monad Prg where
 pure := Prg.pure
 bind := Prg.bind
def run {α:Type}:Prg α → St → Option (α×St)
 | .pure a,s => some (a,s)
 | .get l k,s => (k (s l)).run s
 | .set l v k,s => k.run (s.set l v)
 | .br b x y,s => bif b then x.run s else y.run s
 | .fail,_ => none
def only {α:Type} (R W:List Pl):Prg α → Prg α
 | .pure a => .pure a
 | .get l k => if l ∈ R then .get l fun v => (k v).only R W else .fail
 | .set l v k => if l ∈ W then .set l v (k.only R W) else .fail
 | .br b x y => .br b (x.only R W) (y.only R W)
 | .fail => .fail
section
variable {α β:Type}
theorem run_bind' (p:Prg α) (f:α → Prg β) (s:St):(p.bind f).run s = (p.run s).bind fun x => (f x.1).run x.2 := by
 induction p generalizing s with
 | pure a => rfl
 | get l k ih => exact ih _ _
 | set l v k ih => exact ih _
 | br b x y h1 h2 => simp only [Prg.bind,run]; cases b; exact h2 _; exact h1 _
 | fail => rfl
theorem run_bind (p:Prg α) (f:α → Prg β) (s:St):(p >>= f).run s = (p.run s).bind fun x => (f x.1).run x.2 := run_bind' p f s
end
def ofOpt {α:Type}:Option α → Prg α
 | some a => .pure a
 | none => .fail
section
variable {α:Type}
def getT (x:Nat) (k:RV → Prg α):Prg α := .get (.T x) fun v => match v with
 | .t rv => k rv
 | _ => .fail
def getB (b ver:Nat) (k:Bool → List Cell → Prg α):Prg α := .get (.B b) fun v => match v with
 | .b ver' fz cs => if ver' = ver then k fz cs else .fail
 | _ => .fail
def getR (i c ver:Nat) (k:Row → Prg α):Prg α := .get (.R i c) fun v => match v with
 | .r ver' (some r) => if ver' = ver then k r else .fail
 | _ => .fail
def newR (i c:Nat) (r:Option Row) (k:Nat → Prg α):Prg α := .get (.R i c) fun v => match v with
 | .r ver _ => .set (.R i c) (.r (ver + 1) r) (k (ver + 1))
 | _ => .fail
def newB (b:Nat) (fz:Bool) (cs:List Cell) (k:Nat → Prg α):Prg α := .get (.B b) fun v => match v with
 | .b ver _ _ => .set (.B b) (.b (ver + 1) fz cs) (k (ver + 1))
 | _ => .fail
end
def chk (p:Prop) [Decidable p]:Prg Unit := if p then .pure () else .fail
def sure (b:Bool):Prg Unit := .br b (.pure ()) .fail
end Prg
structure TI where
 size:Nat
 agg:Bool
 zero:List Cell
 flds:List (Nat×Nat)
 elem:Option (Nat×Ty×Nat)
 bas:Option Ty
 eqt:Option (List Ty)                   -- what '==' compares
 fagg:List (Option Bool)                -- whether a field is of more cells
inductive PM where
 | rd | bx | mut | own | bxr | fz
 deriving DecidableEq
def PM.lends:PM → Bool
 | .rd | .bxr => true
 | _ => false
def PM.wr:PM → Bool
 | .bx | .mut => true
 | _ => false
abbrev FSem := List RV → Option (Bool×RV×List (List Cell))
structure Env where
 tt:Nat → Option TI
 fn:Nat → Option (List PM×FSem)
 bxf:Nat → Option (List PM×(List RV → Option (Bool×List Cell×List (List Cell))))   -- functions that answer a new box: its cells
 mv:List Nat                            -- results of 'slice' that take the row along
 keep:Nat → List (Nat×Bool)           -- at a loop's head: temporaries that stay (true: rows shallow)
 keepB:Nat → List (Nat×Bool)          -- and boxes
 keepX:Nat → List (Nat×Bool)          -- the same behind a loop
 keepXB:Nat → List (Nat×Bool)
 nest:List Nat := []                    -- loads of an element's row that is given to be written
def one (c:Cell):RV := .val false [c]
def cellsOf:(e:Ty) → e.den → List Cell
 | .int k,n => [.int k n]
 | .bool,b => [.bool b]
 | .str,s => [.str s]
 | .sl el e,l => [.sl .any el e l]
 | .pair a b,x => cellsOf a x.1 ++ cellsOf b x.2
def cellsOwn:(e:Ty) → e.den → List Cell
 | .int k,n => [.int k n]
 | .bool,b => [.bool b]
 | .str,s => [.str s]
 | .sl el e,l => [.own .any true el e l]
 | .pair a b,x => cellsOwn a x.1 ++ cellsOwn b x.2
def at_ (e:Ty) (l:List e.den) (i:Nat):e.den := l.getD i e.zero
def updE (e:Ty) (l:List e.den) (k:Nat) (f:e.den → e.den):List e.den := l.set k (f (at_ e l k))
def updV {e:Ty} (x:e.den):Option (e.den×Bool) → e.den
 | some p => p.1
 | none => x
def byteAt (s:ByteArray) (i:Nat):Int := ((s.data[i]?).getD 0).toNat
def castL (e e':Ty) (l:List e.den):Option (List e'.den) := if h:e = e' then some (h ▸ l) else none
@[simp] theorem castL_self (e:Ty) (l:List e.den):castL e e l = some l := by simp [castL]
def packInt (k:IntKind):List Cell → Option (Int×Bool×List Cell)
 | .int k' n :: r => if k' = k then some (n,true,r) else none
 | _ => none
def packBool:List Cell → Option (Bool×Bool×List Cell)
 | .bool b :: r => some (b,true,r)
 | _ => none
def packStr:List Cell → Option (ByteArray×Bool×List Cell)
 | .str s :: r => some (s,true,r)
 | _ => none
def packSl (el:Nat) (e:Ty):List Cell → Option (List e.den×Bool×List Cell)
 | .nil _ _ :: r => some ([],true,r)
 | .sl _ el' e' l :: r => if el' = el then (castL e' e l).bind fun l => some (l,false,r) else none
 | .own _ d el' e' l :: r => if el' = el then (castL e' e l).bind fun l => some (l,d,r) else none
 | _ => none
def pack:(e:Ty) → List Cell → Option (e.den×Bool×List Cell)
 | .int k,cs => packInt k cs
 | .bool,cs => packBool cs
 | .str,cs => packStr cs
 | .sl el e,cs => packSl el e cs
 | .pair a b,cs => (pack a cs).bind fun x => (pack b x.2.2).bind fun y => some ((x.1,y.1),x.2.1&&y.2.1,y.2.2)
def packAll (e:Ty) (cs:List Cell):Option (e.den×Bool) := match pack e cs with
 | some (x,d,[]) => some (x,d)
 | _ => none
def nzAny:NZ → NZ
 | .non => .non
 | _ => .any
def Cell.free:Cell → Bool
 | .sl .. | .sptr .. | .fptr .. => false
 | .own _ d _ e _ => d || e.flat
 | .fn _ caps => caps.isEmpty
 | _ => true
def RV.free:RV → Bool
 | .val _ cs => cs.all Cell.free
 | .tup vs => vs.all fun x => x.2.all Cell.free
def Cell.closed0:Cell → Bool
 | .undef | .row .. | .ptr .. | .eptr .. | .fn .. => false
 | _ => true
def Cell.closed:Cell → Bool
 | .fn _ caps => caps.all Cell.closed0
 | c => c.closed0
def Cell.defd:Cell → Bool
 | .undef => false
 | _ => true
def splice (off:Nat) (cs new:List Cell):List Cell := cs.take off ++ new ++ cs.drop (off + new.length)
def intOp (op:BinOp) (k:IntKind) (a b:Int):Option Cell := match op with
 | .add => some (.int k (k.wrap (a + b)))
 | .sub => some (.int k (k.wrap (a - b)))
 | .mul => some (.int k (k.wrap (a * b)))
 | .quo => some (.int k (k.wrap (a.tdiv b)))
 | .rem => some (.int k (a.tmod b))
 | .xor => some (.int k (k.wrap (BitVec.ofInt k.bits a ^^^ BitVec.ofInt k.bits b).toNat))
 | .shr => some (.int k (a.fdiv (2 ^ (min b.toNat k.bits))))
 | .eql => some (.bool (a == b))
 | .neq => some (.bool (a != b))
 | .lss => some (.bool (a < b))
 | .leq => some (.bool (a ≤ b))
 | .gtr => some (.bool (a > b))
 | .geq => some (.bool (a ≥ b))
 | _ => none
def intAsk (op:BinOp) (b:Int):Bool := match op with
 | .quo | .rem => !(b == 0)
 | .shr => decide (0 ≤ b)
 | _ => true
def strOp (op:BinOp) (x y:ByteArray):Option Cell := match op with
 | .add => some (.str (x ++ y))
 | .eql => some (.bool (x.toList == y.toList))
 | .neq => some (.bool !(x.toList == y.toList))
 | .lss => some (.bool (Op.bytesLess x.toList y.toList))
 | .leq => some (.bool (Op.bytesLess x.toList y.toList || x.toList == y.toList))
 | .gtr => some (.bool !(Op.bytesLess x.toList y.toList || x.toList == y.toList))
 | .geq => some (.bool !(Op.bytesLess x.toList y.toList))
 | _ => none
def strAsk (op:BinOp) (x y:ByteArray):Bool := match op with
 | .add => decide (x.size + y.size ≤ 9223372036854775807)
 | _ => true
def boolOp (op:BinOp) (x y:Bool):Option Cell := match op with
 | .eql => some (.bool (x == y))
 | .neq => some (.bool !(x == y))
 | _ => none
def eqCells:List Ty → List Cell → List Cell → Option Bool
 | [],[],[] => some true
 | .int _ :: ts,.int k a :: us,.int k' b :: vs => if k = k' then (eqCells ts us vs).map fun r => a == b&&r else none
 | .bool :: ts,.bool a :: us,.bool b :: vs => (eqCells ts us vs).map fun r => a == b&&r
 | .str :: ts,.str a :: us,.str b :: vs => (eqCells ts us vs).map fun r => a.toList == b.toList&&r
 | _,_,_ => none
def isNil (z:NZ):Bool×Bool := match z with
 | .nil => (true,false)
 | .non => (false,false)
 | .any => (false,true)
 | .may b => (b,false)
namespace Prg
variable (E:Env)
def elemP (t:Nat):Prg (Nat×Ty×Nat) := match E.tt t with
 | some ⟨_,_,_,_,some x,_,_,_⟩ => .pure x
 | _ => .fail
def tiP (t:Nat):Prg TI := match E.tt t with
 | some x => .pure x
 | none => .fail
def constP (t:Nat):Value → Prg RV
 | .int k n => .pure (one (.int k n))
 | .bool b => .pure (one (.bool b))
 | .string s => .pure (one (.str s))
 | .slice none 0 0 => do let x ← elemP E t; .pure (one (.nil x.1 x.2.1))
 | .pointer none => .pure (one .undef)
 | _ => .fail
def ev (t:Nat):Operand → Prg RV
 | .tmp x => getT x .pure
 | .const v => constP E t v
 | .func f => .pure (one (.fn f []))
 | .global _ => .fail
def evs (ts:Nat → Nat):Nat → List Operand → Prg (List RV)
 | _,[] => .pure []
 | j,x :: r => do let y ← ev E (ts j) x; let s ← evs ts (j + 1) r; .pure (y :: s)
def put (d:Option Nat) (r:RV):Prg Unit := match d with
 | none => .pure ()
 | some d => .get (.T d) fun _ => .set (.T d) (.t r) (.get (.K d) fun _ => .set (.K d) (.k none) (.pure ()))
def asCell:RV → Prg Cell
 | .val false [c] => .pure c
 | _ => .fail
def evC (t:Nat) (x:Operand):Prg Cell := do let v ← ev E t x; asCell v
def dstP:Option Nat → Prg Nat
 | some d => .pure d
 | none => .fail
def rowOf:Cell → Prg Row
 | .nil el e => .pure ⟨true,.nil,true,el,e,[]⟩
 | .sl z el e l => .pure ⟨true,z,false,el,e,l⟩
 | .row i c ver => getR i c ver .pure
 | _ => .fail
def lend0:Cell → Prg Cell
 | .row i c ver => getR i c ver fun r => .pure (.sl r.z r.el r.e r.l)
 | x => .pure x
def freeze:Cell → Prg Unit
 | .row i c ver => getR i c ver fun r => if r.fz = true then .pure () else .set (.R i c) (.r ver (some { r with fz := true })) (.pure ())
 | _ => .pure ()
def take:Cell → Prg Cell
 | .row i c ver => getR i c ver fun r => if r.fz then .pure (.sl r.z r.el r.e r.l) else
  .set (.R i c) (.r ver none) (.pure (.own r.z r.d r.el r.e r.l))
 | x => .pure x
def mapC (f:Cell → Prg Cell):List Cell → Prg (List Cell)
 | [] => .pure []
 | x :: r => do let y ← f x; let s ← mapC f r; .pure (y :: s)
def tyC:Cell → Option Ty
 | .int k _ => some (.int k)
 | .bool _ => some .bool
 | .str _ => some .str
 | .nil el e => some (.sl el e)
 | .sl _ el e _ => some (.sl el e)
 | _ => none
def tyCs:List Cell → Option Ty
 | [] => none
 | c :: r => match r with
  | [] => tyC c
  | _ => (tyC c).bind fun a => (tyCs r).map (.pair a ·)
def lendPtr:Cell → Prg Cell
 | .ptr b ver off => if off = 0 then getB b ver fun _ cs => do
   let s ← mapC lend0 cs
   (match tyCs s with
   | some e => (match packAll e s with
    | some (x,_) => .pure (.sptr e x 0)
    | none => .fail)
   | none => .fail) else .fail
 | x => lend0 x
def lendCap:Cell → Prg Cell
 | .ptr b ver off => if off = 0 then getB b ver fun _ cs => (match cs with
   | [.fn f [c]] => do
    let y ← lendPtr c
    (match y with
    | .sptr e x o => if o = 0 then .pure (.fptr f e x) else .fail
    | _ => .fail)
   | _ => lendPtr (.ptr b ver off)) else .fail
 | x => lend0 x
def lend:Cell → Prg Cell
 | .fn f caps => do let s ← mapC lendCap caps; .pure (.fn f s)
 | x => lend0 x
def lendF:Cell → Prg Cell
 | .row i c ver => getR i c ver fun r => if r.fz then .pure (.sl r.z r.el r.e r.l) else .fail
 | .fn f caps => if caps.isEmpty then .pure (.fn f []) else .fail
 | x => .pure x
def forC (f:Cell → Prg Unit):List Cell → Prg Unit
 | [] => .pure ()
 | x :: r => do f x; forC f r
def newRow (d:Nat) (r:Row):Prg RV := newR d 0 (some r) fun ver => .pure (one (.row d 0 ver))
def lay (i:Nat):Nat → List Cell → Prg (List Cell)
 | _,[] => .pure []
 | c,.own z d el e l :: r => newR i c (some ⟨false,z,d || e.flat,el,e,l⟩) fun ver => do let s ← lay i (c + 1) r; .pure (.row i c ver :: s)
 | c,x :: r => do let s ← lay i (c + 1) r; .pure (x :: s)
def layTup (i:Nat):Nat → List (Bool×List Cell) → Prg (List (Bool×List Cell))
 | _,[] => .pure []
 | k,x :: r => do let y ← lay i k x.2; let s ← layTup i (k + x.2.length) r; .pure ((x.1,y) :: s)
def layRV (i:Nat):RV → Prg RV
 | .val g cs => do let s ← lay i 0 cs; .pure (.val g s)
 | .tup vs => do let s ← layTup i 0 vs; .pure (.tup s)
def binOp' (op:BinOp) (t:Nat):RV → RV → Prg Cell
 | .val false [.int k a],.val false [.int k' b] => if k = k' then do sure (intAsk op b); ofOpt (intOp op k a b) else .fail
 | .val false [.str a],.val false [.str b] => do sure (strAsk op a b); ofOpt (strOp op a b)
 | .val false [.bool a],.val false [.bool b] => do let ti ← tiP E t; chk (ti.bas = some .bool); ofOpt (boolOp op a b)
 | .val true xs,.val true ys => do
  let ti ← tiP E t
  let ts ← ofOpt ti.eqt
  let b ← ofOpt (eqCells ts xs ys)
  (match op with
  | .eql => .pure (.bool b)
  | .neq => .pure (.bool !b)
  | _ => .fail)
 | .val false [x],.val false [.nil _ _] => do
  let r ← rowOf x
  let _ ← elemP E t
  let _ ← (if (isNil r.z).2 then sure (decide (0 < r.l.length)) else .pure ())
  (match op with
  | .eql => .pure (.bool (isNil r.z).1)
  | .neq => .pure (.bool !(isNil r.z).1)
  | _ => .fail)
 | _,_ => .fail
def idx (el:Nat) (e:Ty) (i:Int):Cell → Prg Cell
 | .sl _ el' e' l => if el' = el ∧ e' = e then do sure (decide (0 ≤ i ∧ i < (l.length:Int))); .pure (.sptr e' (at_ e' l i.toNat) 0) else .fail
 | .row a c ver => getR a c ver fun r => if r.el = el ∧ r.e = e then do sure (decide (0 ≤ i ∧ i < (r.l.length:Int))); .pure (if r.fz then .sptr r.e (at_ r.e r.l i.toNat) 0 else .eptr a c ver i.toNat r.e.size 0) else .fail
 | _ => .fail
def sub (off n:Nat) (cs:List Cell):Prg (List Cell) := if off + n ≤ cs.length then .pure ((cs.drop off).take n) else .fail
def _root_.Go.Proofs.YtedhpmhlmdcpbaaGreatDoor.E.Cell.plainC:Cell → Bool
 | .int .. | .bool _ | .str _ => true
 | _ => false
def loadP (ti:TI):Cell → Prg RV
 | .ptr b ver off => getB b ver fun _ cs => do let s ← sub off ti.size cs; .pure (.val ti.agg s)
 | .sptr e x off => do let s ← sub off ti.size (cellsOf e x); .pure (.val ti.agg s)
 | .eptr i c ver k sz off => getR i c ver fun r => do
   chk (r.e.size = sz)
   sure (decide (k < r.l.length))
   let s ← sub off ti.size (cellsOf r.e (at_ r.e r.l k))
   if r.d&&!r.e.flat&&!r.fz&&!s.all Cell.plainC then .set (.R i c) (.r ver (some { r with d := false })) (.pure (.val ti.agg s)) else .pure (.val ti.agg s)
 | .fptr f e x => do
   chk (ti.size = 1 ∧ ti.agg = false)
   .pure (.val false [.fn f [.sptr e x 0]])
 | _ => .fail
def newCells (ti:TI):RV → Prg (List Cell)
 | .val g new => if g = ti.agg ∧ new.length = ti.size ∧ new.all Cell.defd = true then .pure new else .fail
 | _ => .fail
def storeP (ti:TI) (x:RV):Cell → Prg Unit
 | .ptr b ver off => do
  let new ← newCells ti x
  getB b ver fun fz cs => if fz = false ∧ off + new.length ≤ cs.length then .set (.B b) (.b ver fz (splice off cs new)) (.pure ()) else .fail
 | .eptr i c ver k sz off => do
  let new ← newCells ti x
  let new ← mapC take new
  getR i c ver fun r => do
   chk (r.e.size = sz)
   sure (decide (k < r.l.length))
   if r.fz = false ∧ off + new.length ≤ r.e.size then
    (match packAll r.e (splice off (if r.d then cellsOwn r.e (at_ r.e r.l k) else cellsOf r.e (at_ r.e r.l k)) new) with
    | some (y,d) => if new.length = r.e.size then .set (.R i c) (.r ver (some { r with l := r.l.set k y,d := r.e.flat || (r.d&&d) })) (.pure ())
     else .set (.R i c) (.r ver (some { r with l := updE r.e r.l k fun x => updV x (packAll r.e (splice off (if r.d then cellsOwn r.e x else cellsOf r.e x) new)),d := r.e.flat || (r.d&&d) })) (.pure ())
    | none => .fail) else .fail
 | _ => .fail
def packs (e:Ty):List RV → Prg (List e.den×Bool)
 | [] => .pure ([],true)
 | .val _ cs :: r => do
  let cs ← mapC take cs
  (match packAll e cs with
  | some (x,d) => do let s ← packs e r; .pure (x :: s.1,d&&s.2)
  | none => .fail)
 | _ :: _ => .fail
def closedP (cs:List Cell):Prg (List Cell) := if cs.all Cell.closed then .pure cs else .fail
def give1:PM → RV → Prg RV
 | .mut,.val g cs => do let s ← mapC take cs; let s ← closedP s; .pure (.val g s)
 | .own,.val g cs => do let s ← mapC take cs; let s ← closedP s; .pure (.val g s)
 | .bx,.val false [.ptr b ver off] => if off = 0 then getB b ver fun fz cs => if fz = false ∧ cs.isEmpty = false then do
   let s ← mapC take cs
   let s ← closedP s
   .set (.B b) (.b ver false []) (.pure (.val true s)) else .fail else .fail
 | .fz,.val g cs => do forC freeze cs; .pure (.val g [])
 | .rd,x => .pure x
 | .bxr,x => .pure x
 | _,_ => .fail
def give2:PM → RV → RV → Prg RV
 | .rd,.val g cs,_ => do let s ← mapC lend cs; let s ← closedP s; .pure (.val g s)
 | .fz,.val g cs,_ => do let s ← mapC lendF cs; let s ← closedP s; .pure (.val g s)
 | .bxr,.val false [.ptr b ver off],_ => if off = 0 then getB b ver fun _ cs => if cs.isEmpty = false then do let s ← mapC lend cs; let s ← closedP s; .pure (.val true s) else .fail else .fail
 | .bxr,.val false [.sptr e x off],_ => if off = 0 then do let s ← closedP (cellsOf e x); .pure (.val true s) else .fail
 | .mut,_,y => .pure y
 | .own,_,y => .pure y
 | .bx,_,y => .pure y
 | _,_,_ => .fail
def gives1:List PM → List RV → Prg (List RV)
 | [],[] => .pure []
 | m :: ms,x :: xs => do let y ← give1 m x; let s ← gives1 ms xs; .pure (y :: s)
 | _,_ => .fail
def gives2:List PM → List RV → List RV → Prg (List RV)
 | [],[],[] => .pure []
 | m :: ms,x :: xs,y :: ys => do let z ← give2 m x y; let s ← gives2 ms xs ys; .pure (z :: s)
 | _,_,_ => .fail
def back:List Cell → List Cell → Prg Unit
 | [],[] => .pure ()
 | .row i c ver :: r,.own z d el e l :: s => .get (.R i c) fun v => match v with
  | .r ver' none => if ver' = ver then .set (.R i c) (.r ver (some ⟨false,z,d || e.flat,el,e,l⟩)) (back r s) else .fail
  | _ => .fail
 | _ :: r,_ :: s => back r s
 | _,_ => .fail
def giveB:PM → RV → List (List Cell) → Prg (List (List Cell))
 | .bx,.val false [.ptr b ver _],o :: os => do
   let s ← lay b 0 o
   getB b ver fun fz cs => if fz = false ∧ cs.isEmpty then .set (.B b) (.b ver false s) (.pure os) else .fail
 | .mut,.val _ cs,o :: os => do chk (cs.all Cell.defd = true); back cs o; .pure os
 | .rd,_,os => .pure os
 | .fz,_,os => .pure os
 | .own,_,os => .pure os
 | .bxr,_,os => .pure os
 | _,_,_ => .fail
def giveBack:List PM → List RV → List (List Cell) → Prg Unit
 | [],_,_ => .pure ()
 | m :: ms,x :: xs,os => do let os ← giveB m x os; giveBack ms xs os
 | _ :: _,[],_ => .fail
def layBox (d:Nat) (cs:List Cell):Prg RV := do
 let s ← lay d 0 cs
 newB d false s fun ver => .pure (one (.ptr d ver 0))
def callG {R:Type} (ms:List PM) (F:List RV → Option (Bool×R×List (List Cell))) (free:R → Bool) (layR:R → Prg RV) (xs:List RV):Prg RV := do
 let y1 ← gives1 ms xs
 let ys ← gives2 ms xs y1
 (match F ys with
 | none => .fail
 | some (pre,r,outs) => do
  sure pre
  chk ((free r&&outs.all (·.all Cell.free)) = true ∨ ms.any PM.lends = false)
  giveBack ms xs outs
  layR r)
def callP (dst:Option Nat) (f:Nat) (xs:List RV):Prg RV := match E.fn f with
 | some (ms,F) => callG ms F RV.free (layRV (dst.getD 0)) xs
 | none => match E.bxf f with
  | some (ms,F) => callG ms F (fun cs => cs.all Cell.free) (layBox (dst.getD 0)) xs
  | none => .fail
def deepOf:Cell → Bool
 | .own _ d _ _ _ => d
 | .nil _ _ => true
 | _ => false
def grows:Cell → Prg Unit
 | .sl .. => .fail
 | _ => .pure ()
def appendP (d:Nat) (el:Nat) (e:Ty) (bytes:Nat) (x y:Cell):Prg RV := do
 let rx ← rowOf x
 let ry ← rowOf y
 chk (rx.el = el ∧ ry.el = el)
 sure (decide ((rx.l.length + ry.l.length) * bytes ≤ 140737488355328 ∧ rx.l.length + ry.l.length ≤ maxLen))
 let lx ← ofOpt (castL rx.e e rx.l)
 let ly ← ofOpt (castL ry.e e ry.l)
 let y' ← (if e.flat then .pure y else take y)
 let x' ← take x
 grows x'
 newRow d ⟨false,nzAny rx.z,e.flat || (deepOf x'&&deepOf y'),el,e,lx ++ ly⟩
def minP:RV → RV → Prg RV
 | .val false [.int k x],.val false [.int k' y] => if k = k' then .pure (one (.int k (if y < x then y else x))) else .fail
 | _,_ => .fail
def maxP:RV → RV → Prg RV
 | .val false [.int k x],.val false [.int k' y] => if k = k' then .pure (one (.int k (if y > x then y else x))) else .fail
 | _,_ => .fail
def lenP (t:Nat):RV → Prg RV
 | .val false [.str s] => do let ti ← tiP E t; chk (ti.bas = some .str); .pure (one (.int .i64 s.size))
 | .val false [x] => do let _ ← elemP E t; let r ← rowOf x; .pure (one (.int .i64 r.l.length))
 | _ => .fail
def appP (dst:Option Nat) (t t':Nat):RV → RV → Prg RV
 | .val false [x],.val false [y] => do
   chk (t' = t)
   let ti ← elemP E t
   let d ← dstP dst
   appendP d ti.1 ti.2.1 ti.2.2 x y
 | _,_ => .fail
def builtinP (dst:Option Nat) (b:Builtin) (argTypes:List Nat) (xs:List RV):Prg RV := match b,argTypes,xs with
 | .len,[t],[x] => lenP E t x
 | .min,_,[x,y] => minP x y
 | .max,_,[x,y] => maxP x y
 | .append,[t,t'],[x,y] => appP E dst t t' x y
 | _,_,_ => .fail
def boundOf (dflt y:Nat):Option RV → Prg Nat
 | none => .pure dflt
 | some (.val false [.int _ i]) => do sure (decide (0 ≤ i ∧ i ≤ (y:Int))); .pure i.toNat
 | _ => .fail
def evO:Option Operand → Prg (Option RV)
 | none => .pure none
 | some x => do let y ← ev E 0 x; .pure (some y)
def buildP (ti:TI):List Nat → List RV → List Cell → Prg (List Cell)
 | f :: fs,.val _ new :: vs,cs => (match ti.flds[f]? with
  | some (off,size) => if new.length = size ∧ off + size ≤ cs.length ∧ new.all Cell.defd = true then buildP ti fs vs (splice off cs new) else .fail
  | none => .fail)
 | [],[],cs => .pure cs
 | _,_,_ => .fail
def pickP:RV → RV → RV → Prg RV
 | .val false [.bool c],.val false [.bool x],.val false [.bool y] => .pure (one (.bool (bif c then x else y)))
 | .val false [.bool c],a,b => .br c (.pure a) (.pure b)
 | _,_,_ => .fail
def fieldP (off:Nat):Cell → Prg Cell
 | .ptr b ver o => getB b ver fun _ _ => .pure (.ptr b ver (o + off))
 | .eptr i c ver k sz o => getR i c ver fun _ => .pure (.eptr i c ver k sz (o + off))
 | .sptr e x o => .pure (.sptr e x (o + off))
 | _ => .fail
def convP (src:Nat) (ti:TI):RV → Prg RV
 | .val false [.int _ n] => (match ti.bas with
  | some (.int k) => .pure (one (.int k (k.wrap n)))
  | _ => .fail)
 | .val false [x] => (match ti.bas with
  | some .str => do
   let se ← elemP E src
   chk (se.2.1 = .int .u8)
   let et ← tiP E se.1
   chk (et.bas = some (.int .u8))
   let r ← rowOf x
   let l ← ofOpt (castL r.e (.int .u8) r.l)
   .pure (one (.str ⟨(l.map fun (n:Int) => UInt8.ofNat n.toNat).toArray⟩))
  | _ => .fail)
 | _ => .fail
def sliceP (t d:Nat) (lo hi:Option RV):RV → Prg RV
 | .val false [.str s] => do
  let ti ← tiP E t
  chk (ti.bas = some .str)
  let h ← boundOf s.size s.size hi
  let l ← boundOf 0 h lo
  .pure (one (.str (s.extract l h)))
 | .val false [x] => do
  let te ← elemP E t
  let r ← rowOf x
  chk (r.el = te.1 ∧ r.e = te.2.1)
  let h ← boundOf r.l.length r.l.length hi
  let l ← boundOf 0 h lo
  (if E.mv.contains d then do
   chk (l = 0 ∧ r.fz = false)
   let y ← take x
   grows y
   newRow d ⟨false,.any,r.d,r.el,r.e,r.l.take h⟩
  else do
   freeze x
   .pure (one (.sl .any r.el r.e ((r.l.take h).drop l))))
 | _ => .fail
def slice3P (t d:Nat) (lo hi:Option RV) (m:Int):RV → Prg RV
 | .val false [x] => do
  let te ← elemP E t
  let r ← rowOf x
  chk (r.el = te.1 ∧ r.e = te.2.1 ∧ hi.isSome = true)
  sure (decide (m = (r.l.length:Int)))
  let h ← boundOf r.l.length r.l.length hi
  let l ← boundOf 0 h lo
  (if E.mv.contains d then do
   chk (l = 0 ∧ r.fz = false)
   let y ← take x
   grows y
   newRow d ⟨false,.any,r.d,r.el,r.e,r.l.take h⟩
  else do
   freeze x
   .pure (one (.sl .any r.el r.e ((r.l.take h).drop l))))
 | _ => .fail
def cells1:List RV → Prg (List Cell)
 | [] => .pure []
 | .val false [c] :: r => do let s ← cells1 r; .pure (c :: s)
 | _ => .fail
def asIntP (t:Nat) (x:Operand):Prg Int := do
 let v ← ev E t x
 match v with
 | .val false [.int _ n] => .pure n
 | _ => .fail
def opP (o:Oper):Prg RV := match o.op with
 | .move x => ev E o.type x
 | .assign x => ev E o.type x
 | .pick c a b => do let c ← ev E 0 c; let a ← ev E 0 a; let b ← ev E 0 b; pickP c a b
 | .alloc t => do let ti ← tiP E t; let d ← dstP o.dst; newB d false ti.zero fun ver => .pure (one (.ptr d ver 0))
 | .box t x => do let v ← ev E t x; let ti ← tiP E t; let d ← dstP o.dst; let cs ← newCells ti v; newB d false cs fun ver => .pure (one (.ptr d ver 0))
 | .build t parts => do
  let vs ← evs E (fun _ => 0) 0 (parts.toList.map (·.2))
  let ti ← tiP E t
  chk (ti.agg = true)
  let cs ← buildP ti (parts.toList.map (·.1)) vs ti.zero
  .pure (.val true cs)
 | .buildSlice t len parts => do
  let vs ← evs E (fun _ => 0) 0 (parts.toList.map (·.2))
  let ti ← elemP E t
  let d ← dstP o.dst
  chk (parts.toList.map (·.1) = List.range len ∧ len * ti.2.1.size ≤ 16777216)
  let r ← packs ti.2.1 vs
  newRow d ⟨false,.non,r.2 || ti.2.1.flat,ti.1,ti.2.1,r.1⟩
 | .load t a => do let a ← evC E 0 a; let ti ← tiP E t; loadP ti a
 | .store t a x => do let a ← evC E 0 a; let x ← ev E t x; let ti ← tiP E t; storeP ti x a; .pure (one .undef)
 | .nilCheck x => do
  let v ← ev E 0 x; let c ← asCell v
  (match c with
  | .ptr b ver _ => getB b ver fun _ _ => .pure v
  | .eptr i c ver _ _ _ => getR i c ver fun _ => .pure v
  | .sptr .. => .pure v
  | _ => .fail)
 | .binOp op t x y yt => do let a ← ev E t x; let b ← ev E yt y; let c ← binOp' E op t a b; .pure (one c)
 | .unOp op _ x => do
  let a ← ev E 0 x
  (match op,a with
  | .not,.val false [.bool b] => .pure (one (.bool !b))
  | .neg,.val false [.int k n] => .pure (one (.int k (k.wrap (0 - n))))
  | _,_ => .fail)
 | .convert src dst x => do let a ← ev E 0 x; let ti ← tiP E dst; let _ ← tiP E src; convP E src ti a
 | .makeFunc (.func f) first caps => do chk (first.isEmpty = true); let cs ← evs E (fun _ => 0) 0 caps.toList; let cs ← cells1 cs; chk (cs.all (fun c => match c with | .fn _ _ => false | _ => true) = true); .pure (one (.fn f cs))
 | .makeSlice t l c => do
  let a ← asIntP E 0 l; let b ← asIntP E 0 c; let ti ← elemP E t; let d ← dstP o.dst
  sure (decide (a = b ∧ 0 ≤ a ∧ a ≤ 9223372036854775807 ∧ ti.2.2 * a ≤ 281474976710656))
  newRow d ⟨false,.non,true,ti.1,ti.2.1,List.replicate a.toNat ti.2.1.zero⟩
 | .slice t x lo hi none => do let a ← ev E 0 x; let lo ← evO E lo; let hi ← evO E hi; let d ← dstP o.dst; sliceP E t d lo hi a
 | .slice t x lo hi (some m) => do let a ← ev E 0 x; let lo ← evO E lo; let hi ← evO E hi; let m ← asIntP E 0 m; let d ← dstP o.dst; slice3P E t d lo hi m a
 | .fieldAddr t x f => do
  let a ← evC E 0 x; let ti ← tiP E t; let p ← ofOpt (ti.flds[f]?); let c ← fieldP p.1 a; .pure (one c)
 | .indexAddr t x i => do let a ← evC E 0 x; let i ← asIntP E 0 i; let ti ← elemP E t; let c ← idx ti.1 ti.2.1 i a; .pure (one c)
 | .index t x i => do
  let a ← evC E 0 x; let i ← asIntP E 0 i; let ti ← tiP E t
  chk (ti.bas = some .str)
  (match a with
  | .str s => do sure (decide (0 ≤ i ∧ i < (s.size:Int))); .pure (one (.int .u8 (byteAt s i.toNat)))
  | _ => .fail)
 | .field t x f => do
  let a ← ev E t x; let ti ← tiP E t; let p ← ofOpt (ti.flds[f]?); let g ← ofOpt (ti.fagg[f]?)
  (match a,g with
  | .val true cs,some g => do chk (g = true ∨ p.2 = 1); let s ← sub p.1 p.2 cs; .pure (.val g s)
  | _,_ => .fail)
 | .extract t i => do
  let a ← ev E 0 t
  (match a with
  | .tup vs => (match vs[i]? with
   | some (g,cs) => .pure (.val g cs)
   | none => .fail)
  | _ => .fail)
 | .call ⟨.builtin b,args,ats⟩ => do let xs ← evs E (fun j => ats.toList.getD j 0) 0 args.toList; builtinP E o.dst b ats.toList xs
 | .call ⟨.value f,args,ats⟩ => do
  let f ← evC E 0 f; let xs ← evs E (fun j => ats.toList.getD j 0) 0 args.toList
  (match f with
  | .fn f caps => callP E o.dst f (xs ++ caps.map one)
  | _ => .fail)
 | _ => .fail
def guardsOf (ops:Array Oper):List Nat := ops.toList.filterMap fun o => match o.guard with
 | some (j,_) => (ops[j]?).bind (·.dst)
 | none => none
def knowP (d:Nat):Prg Unit := getT d fun
 | .val false [.bool b] => .br b (.set (.T d) (.t (one (.bool true))) (.set (.K d) (.k (some (some true))) (.pure ()))) (.set (.T d) (.t (one (.bool false))) (.set (.K d) (.k (some (some false))) (.pure ())))
 | _ => .pure ()
def litX:Operand → Prg (Option Bool)
 | .const (.bool b) => .pure (some b)
 | .tmp t => .get (.K t) fun
  | .k (some (some b)) => .pure (some b)
  | _ => .pure none
 | _ => .pure none
def litP:Op → Prg (Option Bool)
 | .move x => litX x
 | .assign x => litX x
 | .pick (.tmp c) x y => .get (.K c) fun
  | .k (some (some true)) => litX x
  | .k (some (some false)) => litX y
  | _ => .pure none
 | _ => .pure none
def opK (o:Oper):Prg RV := match o.op with
 | .pick (.tmp c) x y => .get (.K c) fun
  | .k (some (some true)) => ev E o.type x
  | .k (some (some false)) => ev E o.type y
  | _ => opP E o
 | _ => opP E o
def putK (ops:Array Oper) (dst:Option Nat) (r:RV):Prg Unit := do
 put dst r
 (match dst with
 | some d => if (guardsOf ops).contains d then knowP d else .pure ()
 | none => .pure ())
def cellB:Option Bool → Cell
 | some b => .bool b
 | none => .undef
def putB (dst:Option Nat) (v:Option Bool):Prg Unit := match dst with
 | none => .pure ()
 | some d => .get (.T d) fun _ => .set (.T d) (.t (one (cellB v))) (.get (.K d) fun _ => .set (.K d) (.k (some v)) (.pure ()))
def stepO (ops:Array Oper) (o:Oper):Prg Unit := do
 let k ← litP o.op
 (match k with
 | some b => putB o.dst (some b)
 | none => do let r ← opK E o; putK ops o.dst r)
def stepP (ops:Array Oper) (o:Oper):Prg Unit := match o.guard with
 | none => stepO E ops o
 | some (j,want) => match (ops[j]?).bind (·.dst) with
  | none => .fail
  | some g => .get (.K g) fun
   | .k (some (some b)) => if (b == want) = true then stepO E ops o else putB o.dst none
   | .k (some none) => putB o.dst none
   | _ => .fail
def plainC:Cell → Bool
 | .int .. | .bool _ | .str _ => true
 | _ => false
def plainRV:RV → Bool
 | .val false [c] => plainC c
 | _ => false
def nestU (r:Row) (off:Nat) (F:List RV → Option (Bool×RV×List (List Cell))) (x:RV) (q:r.e.den):r.e.den := match (cellsOwn r.e q)[off]? with
 | some c => (match F [.val false [c],x] with
  | some (_,_,[[y]]) => updV q (packAll r.e (splice off (cellsOwn r.e q) [y]))
  | _ => q)
 | none => q
def nestR (E:Env) (f:Nat) (x:RV) (i c ver k off:Nat) (r:Row):Prg RV := match (cellsOwn r.e (at_ r.e r.l k))[off]?,E.fn f with
 | some (.own z d el e l),some ([.mut,.own],F) => (match F [.val false [.own z d el e l],x] with
  | some (pre,.val false [res],[[y]]) => do
   sure pre
   chk (plainC res = true)
   (match packAll r.e (splice off (cellsOwn r.e (at_ r.e r.l k)) [y]) with
   | some (_,true) => .get (.R i c) fun _ => .set (.R i c) (.r ver (some { r with l := updE r.e r.l k (nestU r off F x) })) (.pure (one res))
   | _ => .fail)
  | _ => .fail)
 | _,_ => .fail
def nest3 (E:Env) (d t:Nat) (x:Operand) (dm y d2 f:Nat):Prg Unit := do
 chk (y ≠ d ∧ dm ≠ d)
 let c ← evC E 0 x
 let kx ← getT y .pure
 chk (plainRV kx = true)
 let ti ← tiP E t
 chk (ti.size = 1 ∧ ti.agg = false)
 (match c with
 | .eptr i c ver k sz off => getR i c ver fun r => do
  chk (r.e.size = sz ∧ r.fz = false ∧ r.d = true ∧ off < sz)
  sure (decide (k < r.l.length))
  let r' ← nestR E f kx i c ver k off r
  put (some d) (one .undef)
  put (some dm) kx
  put (some d2) r'
 | _ => .fail)
def clear3 (E:Env) (d y t xr dm:Nat):Prg Unit := do
 chk (xr ≠ d ∧ dm ≠ d)
 let ky ← getT y .pure
 let cx ← getT xr .pure
 (match ky,cx with
 | .val false [.int k n],.val false [.row i c ver] => do
  let te ← elemP E t
  getR i c ver fun r => do
   chk (r.el = te.1 ∧ r.e = te.2.1 ∧ r.e = .int .i64 ∧ r.fz = false)
   sure (decide (0 ≤ n ∧ n < (r.l.length:Int)))
   .get (.R i c) fun _ => .set (.R i c) (.r ver (some { r with l := r.l.take n.toNat ++ List.replicate (r.l.length - n.toNat) r.e.zero })) (do
    put (some d) ky
    put (some dm) (one .undef))
 | _,_ => .fail)
def nestP (E:Env) (o om o2:Oper):Prg Unit := match o.op,o.dst,om.op,om.dst,o2.op,o2.dst with
 | .load t x,some d,.move (.tmp y),some dm,.call ⟨.value (.func f),args,_⟩,some d2 => match args.toList with
  | [.tmp a0,.tmp a1] => do
   chk (o.guard = none ∧ om.guard = none ∧ o2.guard = none)
   chk (a0 = d ∧ a1 = dm)
   nest3 E d t x dm y d2 f
  | _ => .fail
 | .move (.tmp y),some d,.slice t (.tmp xr) (some (.tmp d')) none none,some dm,.call ⟨.builtin .clear,args,ats⟩,none => match args.toList,ats.toList with
  | [.tmp a0],[t'] => do
   chk (o.guard = none ∧ om.guard = none ∧ o2.guard = none)
   chk (a0 = dm ∧ d' = d ∧ t' = t)
   clear3 E d y t xr dm
  | _,_ => .fail
 | _,_,_,_,_,_ => .fail
end Prg
inductive Ex where
 | normal | exit (id:Nat) | ret
 deriving DecidableEq
inductive Tr (α:Type):Type where
 | done (a:α)
 | br (b:Bool) (x y:Tr α)
 | lp (b:Nat) (c:Code) (s:St) (k:Ex → St → Tr α)
 | fail
def Prg.tr {α β:Type}:Prg α → St → (α → St → Tr β) → Tr β
 | .pure a,s,k => k a s
 | .get l f,s,k => (f (s l)).tr s k
 | .set l v p,s,k => p.tr (s.set l v) k
 | .br b x y,s,k => .br b (x.tr s k) (y.tr s k)
 | .fail,_,_ => .fail
def runOps {β:Type} (E:Env) (ops:Array Oper):List Oper → St → (St → Tr β) → Tr β
 | [],s,k => k s
 | o :: r,s,k => (Prg.stepP E ops o).tr s fun _ s => runOps E ops r s k
def runOpsN {β:Type} (E:Env) (ops:Array Oper):List Oper → St → (St → Tr β) → Tr β
 | [],s,k => k s
 | [o],s,k => (Prg.stepP E ops o).tr s fun _ s => k s
 | [o,o2],s,k => (Prg.stepP E ops o).tr s fun _ s => (Prg.stepP E ops o2).tr s fun _ s => k s
 | o :: om :: o2 :: r,s,k => bif o.dst.any E.nest.contains then (Prg.nestP E o om o2).tr s fun _ s => runOpsN E ops r s k
  else (Prg.stepP E ops o).tr s fun _ s => runOpsN E ops (om :: o2 :: r) s k
def nests (E:Env) (ops:Array Oper):Bool := ops.toList.any fun o => o.dst.any E.nest.contains
def insP (l:Pl) (ls:List Pl):List Pl := if ls.contains l then ls else l :: ls
def Prg.log {α:Type}:Prg α → St → List Pl → List Pl → List (St×List Pl×List Pl)
 | .pure _,s,w,r => [(s,w,r)]
 | .get l k,s,w,r => (k (s l)).log s w (insP l r)
 | .set l v k,s,w,r => k.log (s.set l v) (insP l w) r
 | .br _ x y,s,w,r => x.log s w r ++ y.log s w r
 | .fail,_,_,_ => []
def unionP (a b:List Pl×List Pl):List Pl×List Pl := (a.1.foldr insP b.1,a.2.foldr insP b.2)
def unionPs:List (List Pl×List Pl) → List (List Pl×List Pl) → List (List Pl×List Pl)
 | x :: a,y :: b => unionP x y :: unionPs a b
 | [],b => b
 | a,[] => a
def logOps (E:Env) (ops:Array Oper):List Oper → St → List (List Pl×List Pl)
 | [],_ => []
 | o :: r,s => let ls := (Prg.stepP E ops o).log s [] []
  ls.foldr (fun x a => unionP x.2 a) ([],[]) :: ls.foldr (fun x a => unionPs (logOps E ops r x.1) a) []
def edgesOf (o:Oper):List Nat := (o.after.toList.filter (Region.binds .any)).map (·.on)
def maskOf (acc:List Nat):List Nat → Nat
 | [] => 0
 | e :: r => (1 <<< e) ||| acc.getD e 0 ||| maskOf acc r
def masks:List Oper → List Nat → List Nat
 | [],acc => acc
 | o :: r,acc => masks r (acc ++ [maskOf acc (edgesOf o)])
def apartL (x y:List Pl):Bool := x.all fun l => !y.contains l
def drawOk (ops:List Oper) (fps:List (List Pl×List Pl)):Bool :=
 let ms := masks ops []
 decide (fps.length = ops.length)&&(List.range ops.length).all fun i => match ops[i]?,fps[i]? with
  | some o,some f => (edgesOf o).all (fun e => decide (e < i))&&(List.range i).all fun j => (ms.getD i 0).testBit j || match fps[j]? with
   | some g => apartL g.1 (f.1 ++ f.2)&&apartL f.1 (g.1 ++ g.2)
   | none => false
  | _,_ => false
def runOpsA {β:Type} (E:Env) (ops:Array Oper):List Oper → List (List Pl×List Pl) → St → (St → Tr β) → Tr β
 | [],_,s,k => k s
 | o :: r,f :: fs,s,k => ((Prg.stepP E ops o).only (f.1 ++ f.2) f.1).tr s fun _ s => runOpsA E ops r fs s k
 | _ :: _,[],_,_ => .fail
def canonC (s:St) (sh:Bool) (i c:Nat):Cell → Cell×Option (Row×Option (Nat×Nat))
 | .row a b ver => match s (.R a b) with
  | .r ver' (some r) => if ver' = ver then (.row i c 0,some ({ r with z := nzAny r.z,d := r.d&&(!sh || r.e.flat) },some (a,b))) else (.undef,none)
  | _ => (.undef,none)
 | .ptr b ver off => match s (.B b) with
  | .b ver' _ _ => if ver' = ver then (.ptr b 0 off,none) else (.undef,none)
  | _ => (.undef,none)
 | .eptr .. => (.undef,none)
 | .own .. => (.undef,none)
 | .fn f caps => if caps.all Cell.closed0 = true then (.fn f caps,none) else (.undef,none)
 | .nil el e => (.row i c 0,some (⟨false,.any,!sh || e.flat,el,e,[]⟩,none))
 | .sl z el e l => (.sl (nzAny z) el e l,none)
 | x => (x,none)
abbrev Tk := List ((Nat×Nat)×Nat×Nat×Bool)
def look (tk:Tk) (a b:Nat):Option (Nat×Nat×Bool) := match tk with
 | [] => none
 | (x,d) :: r => if x.1 = a ∧ x.2 = b then some d else look r a b
def canonCs (s:St) (sh:Bool) (i:Nat):Nat → List Cell → Tk → List Cell×List (Pl×LV)×Tk
 | _,[],tk => ([],[],tk)
 | c,x :: r,tk => match canonC s sh i c x with
  | (y,none) => let q := canonCs s sh i (c + 2) r tk; (y :: q.1,q.2)
  | (y,some (row,none)) => let q := canonCs s sh i (c + 2) r tk; (y :: q.1,(.R i c,.r 0 (some row)) :: q.2.1,q.2.2)
  | (y,some (row,some t)) => match look tk t.1 t.2 with
   | some _ => let q := canonCs s sh i (c + 2) r tk; (.undef :: q.1,q.2)
   | none => let q := canonCs s sh i (c + 2) r ((t,i,c,row.d) :: tk); (y :: q.1,(.R i c,.r 0 (some row)) :: q.2.1,q.2.2)
def canonT (s:St):List (Nat×Bool) → Tk → List (Pl×LV)×Tk
 | [],tk => ([],tk)
 | (i,sh) :: r,tk => match s (.T i) with
  | .t (.val g cs) => let q := canonCs s sh i 0 cs tk; let p := canonT s r q.2.2; ((.T i,.t (.val g q.1)) :: (q.2.1 ++ p.1),p.2)
  | _ => canonT s r tk
def canonB (s:St):List (Nat×Bool) → Tk → List (Pl×LV)×Tk
 | [],tk => ([],tk)
 | (i,sh) :: r,tk => match s (.B i) with
  | .b _ fz cs => let q := canonCs s sh i 1 cs tk; let p := canonB s r q.2.2; ((.B i,.b 0 fz q.1) :: (q.2.1 ++ p.1),p.2)
  | _ => canonB s r tk
def St.zero:St := fun
 | .T _ => .t (one .undef)
 | .B _ => .b 0 true []
 | .R _ _ => .r 0 none
 | .K _ => .k none
 | _ => .t (one .undef)
def St.of:List (Pl×LV) → St
 | [] => St.zero
 | (l,v) :: r => (St.of r).set l v
def canonOf (kt kb:List (Nat×Bool)) (s:St):List (Pl×LV) :=
 let p := canonT s kt []
 p.1 ++ (canonB s kb p.2).1
def canon (E:Env) (id:Nat) (s:St):List (Pl×LV) := canonOf (E.keep id) (E.keepB id) s
def canonX (E:Env) (id:Nat) (s:St):List (Pl×LV) := canonOf (E.keepX id) (E.keepXB id) s
def exec {β:Type} (E:Env):Nat → Code → St → (Ex → St → Tr β) → Tr β
 | _,.skip,s,k => k .normal s
 | _,.region _ ops false,s,k => bif nests E ops then runOpsN E ops ops.toList s (k .normal) else runOps E ops ops.toList s (k .normal)
 | _,.region _ ops true,s,k => if drawOk ops.toList (logOps E ops ops.toList s) then runOpsA E ops ops.toList (logOps E ops ops.toList s) s (k .normal) else .fail
 | b,.seq x y,s,k => exec E b x s fun ex s => match ex with
  | .normal => exec E b y s k
  | ex => k ex s
 | b,.cond (.tmp c) x y,s,k => match s (.K c) with
  | .k (some (some true)) => exec E b x s k
  | .k (some (some false)) => exec E b y s k
  | _ => match s (.T c) with
   | .t (.val false [.bool t]) => .br t (exec E b x s k) (exec E b y s k)
   | _ => .fail
 | _,.block id c,s,k => exec E id c s fun ex s => match ex with
  | .exit id' => if id' = id then k .normal s else k (.exit id') s
  | ex => k ex s
 | b,.loop c,s,k => .lp b c s k
 | _,.exit id,s,k => k (.exit id) s
 | _,.ret,s,k => k .ret s
 | _,_,_,_ => .fail
inductive Rd where
 | again (h:List (Pl×LV))
 | out (ex:Ex) (h:List (Pl×LV))
def leafRd (E:Env) (b:Nat):Ex → St → Tr Rd
 | .normal,s => .done (.again (canon E b s))
 | ex,s => .done (.out ex (canonX E b s))
def Tr.To {α:Type} (E:Env) (LT:Nat → Code → List (Pl×LV) → Ex → List (Pl×LV) → Prop):Tr α → α → Prop
 | .done a,r => a = r
 | .br b x y,r => (b = true ∧ x.To E LT r) ∨ (b = false ∧ y.To E LT r)
 | .lp b c s k,r => ∃ ex h,LT b c (canon E b s) ex h ∧ (k ex (St.of h)).To E LT r
 | .fail,_ => False
def Rounds (E:Env) (LT:Nat → Code → List (Pl×LV) → Ex → List (Pl×LV) → Prop):Nat → Nat → Code → List (Pl×LV) → Ex → List (Pl×LV) → Prop
 | 0,_,_,_,_,_ => False
 | m + 1,b,c,h,ex,s => (exec E b c (St.of h) (leafRd E b)).To E LT (.out ex s) ∨ ∃ h',(exec E b c (St.of h) (leafRd E b)).To E LT (.again h') ∧ Rounds E LT m b c h' ex s
def LT (E:Env):Nat → Nat → Code → List (Pl×LV) → Ex → List (Pl×LV) → Prop
 | 0,_,_,_,_,_ => False
 | n + 1,b,c,h,ex,s => ∃ m,Rounds E (LT E n) m b c h ex s
def enterC (i:Nat):Nat → List Cell → List Cell×List (Pl×LV)
 | _,[] => ([],[])
 | c,.own z d el e l :: r => let q := enterC i (c + 1) r; (.row i c 0 :: q.1,(.R i c,.r 0 (some ⟨false,z,d || e.flat,el,e,l⟩)) :: q.2)
 | c,x :: r => let q := enterC i (c + 1) r; (x :: q.1,q.2)
def enter:Nat → List PM → List RV → List (Pl×LV)
 | i,.bx :: ms,.val _ cs :: xs => let q := enterC i 0 cs; (.T i,.t (one (.ptr i 0 0))) :: (.B i,.b 0 false q.1) :: (q.2 ++ enter (i + 1) ms xs)
 | i,.bxr :: ms,.val _ cs :: xs => let q := enterC i 0 cs; (.T i,.t (one (.ptr i 0 0))) :: (.B i,.b 0 true q.1) :: (q.2 ++ enter (i + 1) ms xs)
 | i,_ :: ms,.val g cs :: xs => let q := enterC i 0 cs; (.T i,.t (.val g q.1)) :: (q.2 ++ enter (i + 1) ms xs)
 | _,_,_ => []
namespace Prg
def resP (E:Env):ResultVar → Prg (Bool×List Cell)
 | .tmp t => getT t fun
  | .val g cs => do let s ← mapC take cs; let s ← closedP s; .pure (g,s)
  | .tup _ => .fail
 | .cell a t => do
  let c ← evC E 0 (.tmp a)
  let ti ← tiP E t
  (match c with
  | .ptr b ver off => getB b ver fun _ cs => do let s ← sub off ti.size cs; let s ← mapC take s; let s ← closedP s; .pure (ti.agg,s)
  | _ => .fail)
def resPs (E:Env):List ResultVar → Prg (List (Bool×List Cell))
 | [] => .pure []
 | x :: r => do let y ← resP E x; let s ← resPs E r; .pure (y :: s)
def outP (i:Nat):PM → Prg (List Cell)
 | .bx => getT i fun
  | .val false [.ptr b ver off] => if off = 0 then getB b ver fun fz cs => if fz = false ∧ cs.isEmpty = false then do let s ← mapC take cs; let s ← closedP s; .pure s else .fail else .fail
  | _ => .fail
 | _ => getT i fun
  | .val _ cs => do let s ← mapC take cs; let s ← closedP s; .pure s
  | .tup _ => .fail
def outsP:Nat → List PM → Prg (List (List Cell))
 | _,[] => .pure []
 | i,m :: ms => if m.wr then do let s ← outP i m; let r ← outsP (i + 1) ms; .pure (s :: r) else outsP (i + 1) ms
def retP (E:Env) (fn:Func) (ms:List PM):Prg (RV×List (List Cell)) := do
 let vs ← resPs E fn.results.toList
 let os ← outsP 0 ms
 .pure (match vs with | [(g,cs)] => .val g cs | vs => .tup vs,os)
end Prg
def execFn (E:Env) (fn:Func) (ms:List PM) (xs:List RV):Tr (RV×List (List Cell)) :=
 match fn.body with
 | none => .fail
 | some c => exec E 0 c (St.of (enter 0 ms xs)) fun ex s => match ex with
  | .exit _ => .fail
  | _ => (Prg.retP E fn ms).tr s fun r _ => .done r
def tyOf (P:Program):Nat → Nat → Option Ty
 | 0,_ => none
 | k + 1,t => match P.underlying t with
  | some (.int i) => some (.int i)
  | some .bool => some .bool
  | some .string => some .str
  | some (.slice e) => (tyOf P k e).map (.sl e ·)
  | some (.struct fs) => (fs.toList.mapM fun f => tyOf P k f.type).bind fun ts => match ts.reverse with
   | [] => none
   | t :: r => some (r.foldl (fun a b => .pair b a) t)
  | _ => none
def zeroCells:Ty → List Cell
 | .int k => [.int k 0]
 | .bool => [.bool false]
 | .str => [.str ⟨#[]⟩]
 | .sl el e => [.nil el e]
 | .pair a b => zeroCells a ++ zeroCells b
def isZero:Ty → List Value → Option (List Value)
 | .int k,cs => match cs with
  | .int k' n :: r => if k' = k ∧ n = 0 then some r else none
  | _ => none
 | .bool,cs => match cs with
  | .bool b :: r => if b = false then some r else none
  | _ => none
 | .str,cs => match cs with
  | .string s :: r => if s.size = 0 then some r else none
  | _ => none
 | .sl _ _,cs => match cs with
  | .slice a n c :: r => if a = none ∧ n = 0 ∧ c = 0 then some r else none
  | _ => none
 | .pair a b,cs => (isZero a cs).bind (isZero b)
def zeroOk (t:Ty) (cs:List Value):Bool := match isZero t cs with
 | some [] => true
 | _ => false
def aggOf (P:Program) (t:Nat):Option Bool := match P.underlying t with
 | some (.struct _) => some true
 | some (.array ..) => none
 | some _ => some false
 | none => none
def fldsOf (P:Program):Nat → List Field → Option (List (Nat×Nat))
 | _,[] => some []
 | o,f :: r => match P.info? f.type with
  | some i => if f.offset = o ∧ i.size ≠ 0 then (fldsOf P (o + i.size) r).map ((o,i.size) :: ·) else none
  | none => none
def zcells:Value → Bool×List Value
 | .agg cs => (true,cs.toList)
 | v => (false,[v])
def plain1:Value → Bool
 | .agg _ | .tuple _ => false
 | _ => true
def chkO (b:Bool):Option Unit := if b then some () else none
def basOf (P:Program) (t:Nat):Option Ty := match P.underlying t with
 | some (.int k) => some (.int k)
 | some .bool => some .bool
 | some .string => some .str
 | _ => none
def eqFs (P:Program) (g:Nat → Option (List Ty)):Nat → List Field → Option (List Ty)
 | _,[] => some []
 | o,f :: fs => if (f.name != "_") = true ∧ f.offset = o then (g f.type).bind fun l => (P.info? f.type).bind fun i => if i.size = l.length then (eqFs P g (o + l.length) fs).map (l ++ ·) else none else none
def eqTys (P:Program):Nat → Nat → Option (List Ty)
 | 0,_ => none
 | n + 1,t => match P.underlying t with
  | some (.int k) => some [.int k]
  | some .bool => some [.bool]
  | some .string => some [.str]
  | some (.struct fs) => if P.stoodInHeld t = false then eqFs P (eqTys P n) 0 fs.toList else none
  | _ => none
def eqtOf (P:Program) (t:Nat):Option (List Ty) := if P.eqGuardType P.depth t = false then eqTys P 8 t else none
def tiRest (P:Program) (t:Nat) (size:Nat) (g:Bool) (ty:Ty):Option TI := match P.underlying t with
 | some (.struct fs) => (fldsOf P 0 fs.toList).bind fun fl => some ⟨size,g,zeroCells ty,fl,none,none,eqtOf P t,fs.toList.map fun f => aggOf P f.type⟩
 | some (.slice e) => (tyOf P 8 e).bind fun ety => (P.info? e).bind fun ei => ei.zero.bind fun ez =>
  (chkO (ety.size == ei.size&&zeroOk ety ez.cells.toList&&decide (0 < ei.size))).bind fun _ => some ⟨size,g,zeroCells ty,[],some (e,ety,ei.bytes),none,none,[]⟩
 | _ => some ⟨size,g,zeroCells ty,[],none,basOf P t,none,[]⟩
def mkTI (P:Program) (t:Nat):Option TI := (P.info? t).bind fun i => (aggOf P t).bind fun g => i.zero.bind fun z =>
 (chkO ((zcells z).1 == g&&(zcells z).2.length == i.size&&decide (0 < i.size))).bind fun _ => match tyOf P 9 t with
  | none => (chkO (i.size == 1&&g == false&&plain1 z)).bind fun _ => some ⟨1,false,[.undef],[],none,none,none,[]⟩
  | some ty => (chkO (ty.size == i.size&&zeroOk ty (zcells z).2)).bind fun _ => tiRest P t i.size g ty
def Has (w:World) (g off:Nat) (c:List Value):Prop := ∀ (j:Nat) (v:Value),c[j]? = some v → w.cell? ⟨g,off + j,none⟩ = some v
def ownR (w:World) (base:Nat) (e:TypeId) (size:Nat) (v:Value) (n:Nat) (xs:List Value):Prop :=
  xs.length = n * size ∧
  ((v = .slice none 0 0 ∧ n = 0) ∨
   ∃ g cap cur,v = .slice (some ⟨g,0,none⟩) n cap ∧ base ≤ g ∧ w.heap[g]? = some (.cells cur e (0,0)) ∧ n ≤ cap ∧ cap ≤ maxLen ∧ cap * size ≤ cur.size ∧ cur.toList.take (n * size) = xs)
theorem ownR_nil (w:World) (base:Nat) (e:TypeId) (size:Nat):ownR w base e size (.slice none 0 0) 0 [] := ⟨by simp,.inl ⟨rfl,rfl⟩⟩
theorem ownR_of {w:World} {base:Nat} {e:TypeId} {size:Nat} {v:Value} {n:Nat} {xs:List Value} (h:w.ownsRow base e size v n xs):ownR w base e size v n xs :=
 ⟨h.1,h.2.imp id fun ⟨g,cap,cur,h1,h2,h3,h4,h5,h6,h7⟩ => ⟨g,cap,cur,h1,h2,h3,h4,h5,Nat.le_of_eq h6.symm,h7⟩⟩
theorem ownR.lt {w:World} {base:Nat} {e:TypeId} {size:Nat} {v:Value} {n:Nat} {xs:List Value} (h:ownR w base e size v n xs):∀ k,v.ownBlock = some k → base ≤ k ∧ k < w.heap.size := by
 intro k hk
 rcases h.2 with ⟨rfl,_⟩ | ⟨g,cap,cur,rfl,hb,hg,_⟩
 ·simp [Value.ownBlock] at hk
 ·simp [Value.ownBlock] at hk
  subst hk
  exact ⟨hb,(Array.getElem?_eq_some_iff.1 hg).1⟩
theorem ownR.cells {w:World} {base:Nat} {e:TypeId} {size:Nat} {v:Value} {n:Nat} {xs:List Value} (h:ownR w base e size v n xs) {g:Nat} (hg:v.ownBlock = some g):∀ j u,xs[j]? = some u → w.cell? ((⟨g,0,none⟩:Addr).add j) = some u := by
 intro j u hu
 rcases h.2 with ⟨rfl,_⟩ | ⟨g',cap,cur,rfl,_,hgg,_,_,_,htake⟩
 ·simp [Value.ownBlock] at hg
 ·simp [Value.ownBlock] at hg
  subst hg
  have hadd:(⟨g',0,none⟩:Addr).add j = ⟨g',j,none⟩ := by unfold Addr.add; split <;> simp_all
  rw [hadd,cell_of_row w g' j cur e (0,0) hgg]
  rw [← htake,List.getElem?_take] at hu
  split at hu
  ·simpa using hu
  ·cases hu
def ROc (w:World) (S:Nat → Prop):(t:Ty) → t.den → List Value → Prop
 | .int k,n,cs => cs = [.int k n]
 | .bool,b,cs => cs = [.bool b]
 | .str,s,cs => cs = [.string s]
 | .sl _ e,l,cs => ∃ A cap,cs = [.slice A l.length cap] ∧ (l.length ≤ cap ∧ (A = none → cap = 0)) ∧ ∀ (i:Nat) (x:e.den),l[i]? = some x → ∃ g off c,A = some ⟨g,off,none⟩ ∧ S g ∧ c.length = e.size ∧ Has w g (off + i * e.size) c ∧ ROc w S e x c
 | .pair a b,x,cs => ∃ c1 c2,cs = c1 ++ c2 ∧ c1.length = a.size ∧ ROc w S a x.1 c1 ∧ ROc w S b x.2 c2
def OWc (w:World):(t:Ty) → t.den → (Nat → Prop) → List Value → Prop
 | .int k,n,_,cs => cs = [.int k n]
 | .bool,b,_,cs => cs = [.bool b]
 | .str,s,_,cs => cs = [.string s]
 | .sl el e,l,φ,cs => ∃ v vals,cs = [v] ∧ ownR w 0 el e.size v l.length vals ∧ (∀ g,v.ownBlock = some g → φ g) ∧
   ∃ ψ:Nat → Nat → Prop,(∀ i g,ψ i g → φ g ∧ v.ownBlock ≠ some g) ∧ (∀ i j g,ψ i g → ψ j g → i = j) ∧
    ∀ (i:Nat) (x:e.den),l[i]? = some x → OWc w e x (ψ i) ((vals.drop (i * e.size)).take e.size)
 | .pair a b,x,φ,cs => ∃ c1 c2 ψ1 ψ2,cs = c1 ++ c2 ∧ c1.length = a.size ∧ (∀ g,ψ1 g → φ g) ∧ (∀ g,ψ2 g → φ g) ∧ (∀ g,ψ1 g → ψ2 g → False) ∧ OWc w a x.1 ψ1 c1 ∧ OWc w b x.2 ψ2 c2
def zOk (z:NZ) (v:Value):Prop := match z with
 | .nil => v = .slice none 0 0
 | .non => ∃ a n c,v = .slice (some a) n c
 | .any => True
 | .may b => (v = .slice none 0 0 ∧ b = true) ∨ ((∃ a n c,v = .slice (some a) n c) ∧ b = false)
def RowRep (w:World) (S φ:Nat → Prop) (r:Row) (v:Value):Prop :=
 zOk r.z v ∧ if r.fz then ROc w S (.sl r.el r.e) r.l [v]
 else ∃ vals,ownR w 0 r.el r.e.size v r.l.length vals ∧ (∀ g,v.ownBlock = some g → φ g) ∧
  if r.d then ∃ ψ:Nat → Nat → Prop,(∀ i g,ψ i g → φ g ∧ v.ownBlock ≠ some g) ∧ (∀ i j g,ψ i g → ψ j g → i = j) ∧
    ∀ (i:Nat) (x:r.e.den),r.l[i]? = some x → OWc w r.e x (ψ i) ((vals.drop (i * r.e.size)).take r.e.size)
  else ∀ (i:Nat) (x:r.e.den),r.l[i]? = some x → ROc w S r.e x ((vals.drop (i * r.e.size)).take r.e.size)
structure Ctx where
 w:World
 S:Nat → Prop
 ad:Nat → Addr
 bv:Nat → Nat
 sv:Nat → Nat → Value
 rv:Nat → Nat → Nat
def CRep0 (X:Ctx):Cell → Value → Prop
 | .undef,_ => True
 | .int k n,v => v = .int k n
 | .bool b,v => v = .bool b
 | .str s,v => v = .string s
 | .nil _ _,v => v = .slice none 0 0
 | .sl z el e l,v => zOk z v ∧ ROc X.w X.S (.sl el e) l [v]
 | .own ..,_ => False
 | .row i c ver,v => ver ≤ X.rv i c ∧ v.oneCell' = true ∧ (ver = X.rv i c → v = X.sv i c)
 | .ptr b ver off,v => ver ≤ X.bv b ∧ v.oneCell' = true ∧ (ver = X.bv b → v = .pointer (some ((X.ad b).add off)))
 | .eptr i c ver k sz off,v => ver ≤ X.rv i c ∧ v.oneCell' = true ∧ (ver = X.rv i c → ∃ g n cap,X.sv i c = .slice (some ⟨g,0,none⟩) n cap ∧ v = .pointer (some ⟨g,k * sz + off,none⟩))
 | .sptr e x off,v => ∃ g o c,v = .pointer (some ⟨g,o + off,none⟩) ∧ X.S g ∧ c.length = e.size ∧ Has X.w g o c ∧ ROc X.w X.S e x c
 | .fptr f e x,v => ∃ g o p,v = .pointer (some ⟨g,o,none⟩) ∧ X.S g ∧ Has X.w g o [.func (.func f) #[] #[p]] ∧ ∃ g2 o2 c,p = .pointer (some ⟨g2,o2 + 0,none⟩) ∧ X.S g2 ∧ c.length = e.size ∧ Has X.w g2 o2 c ∧ ROc X.w X.S e x c
 | .fn _ _,_ => False
def All2 {α β:Type} (R:α → β → Prop):List α → List β → Prop
 | [],[] => True
 | a :: l,b :: m => R a b ∧ All2 R l m
 | _,_ => False
def CRep (X:Ctx):Cell → Value → Prop
 | .fn f caps,v => ∃ vs:List Value,v = .func (.func f) #[] vs.toArray ∧ All2 (CRep0 X) caps vs
 | c,v => CRep0 X c v
def GRep (X:Ctx) (g:Bool) (cs:List Cell) (v:Value):Prop := ∃ vs:List Value,All2 (CRep X) cs vs ∧ v = (if g then .agg vs.toArray else vs.headD undef) ∧ (g = false → cs.length = 1)
def VRep (X:Ctx):RV → Value → Prop
 | .val g cs,v => GRep X g cs v
 | .tup us,v => ∃ vs:List Value,v = .tuple vs.toArray ∧ All2 (fun u v => GRep X u.1 u.2 v) us vs
def bvOf (s:St) (b:Nat):Nat := match s (.B b) with
 | .b ver _ _ => ver
 | _ => 0
def rvOf (s:St) (i c:Nat):Nat := match s (.R i c) with
 | .r ver _ => ver
 | _ => 0
structure Beg where
 w0:World
 S:Nat → Prop
 O:Nat → Prop
 n:Nat
 fix:Nat → Option Value
def Beg.may (G:Beg) (d:Nat):Prop := d < G.n ∧ G.fix d = none
structure Wit where
 ω:Nat → Option Pl
 ad:Nat → Addr
 sv:Nat → Nat → Value
def ctx (s:St) (w:World) (W:Wit):Ctx := ⟨w,fun g => g < w.heap.size ∧ W.ω g = none,W.ad,bvOf s,W.sv,rvOf s⟩
def kval:Option Bool → Value
 | some b => .bool b
 | none => undef
structure Rel (G:Beg) (s:St) (a:Act) (w:World) (W:Wit):Prop where
 size:a.tmps.size = G.n
 defers:a.defers = []
 fix:∀ i v,G.fix i = some v → a.tmps.getD i undef = v
 K:∀ i b,s (.K i) = .k (some b) → a.tmps.getD i undef = kval b
 T:∀ i rv,s (.T i) = .t rv → VRep (ctx s w W) rv (a.tmps.getD i undef)
 B:∀ b ver fz cs,s (.B b) = .b ver fz cs → cs ≠ [] → (W.ad b).spot = none ∧
  (if fz then (ctx s w W).S (W.ad b).block else W.ω (W.ad b).block = some (.B b) ∧ ∃ cells el,w.heap[(W.ad b).block]? = some (.cells cells el (0,0))) ∧
  ∀ (j:Nat) (c:Cell),cs[j]? = some c → ∃ v,w.cell? ((W.ad b).add j) = some v ∧ v.oneCell' = true ∧ CRep (ctx s w W) c v
 R:∀ i c ver r,s (.R i c) = .r ver (some r) → RowRep w (ctx s w W).S (fun g => W.ω g = some (.R i c)) r (W.sv i c)
 lt:∀ g,W.ω g ≠ none → g < w.heap.size
 os:w.os = G.w0.os
 tape:w.tape = G.w0.tape
 output:w.output = G.w0.output
 grow:G.w0.heap.size ≤ w.heap.size
 old:∀ g,g < G.w0.heap.size → ¬ G.O g → (G.S g ∧ W.ω g = none ∨ ¬ G.S g ∧ W.ω g = some .F) ∧ w.heap[g]? = G.w0.heap[g]?
section
variable {w w':World} {S S':Nat → Prop}
theorem Has.of_block {g off:Nat} {c:List Value} (h:Has w g off c) (hb:w'.heap[g]? = w.heap[g]?):Has w' g off c := by
 intro j v hj
 rw [World.cell?_of_block (w := w) (w' := w') hb]
 exact h j v hj
theorem ROc.move (hS:∀ g,S g → S' g ∧ w'.heap[g]? = w.heap[g]?):∀ (t:Ty) (x:t.den) (cs:List Value),ROc w S t x cs → ROc w' S' t x cs
 | .int _,_,_,h => h
 | .bool,_,_,h => h
 | .str,_,_,h => h
 | .sl _ e,l,cs,h => by
  obtain ⟨A,cap,h1,h2,h3⟩ := h
  refine ⟨A,cap,h1,h2,fun i x hx => ?_⟩
  obtain ⟨g,off,c,e1,e2,e3,e4,e5⟩ := h3 i x hx
  exact ⟨g,off,c,e1,(hS g e2).1,e3,e4.of_block (hS g e2).2,ROc.move hS e x c e5⟩
 | .pair a b,x,cs,h => by
  obtain ⟨c1,c2,h1,h2,h3,h4⟩ := h
  exact ⟨c1,c2,h1,h2,ROc.move hS a _ _ h3,ROc.move hS b _ _ h4⟩
theorem ROc.length:∀ (t:Ty) (x:t.den) (cs:List Value),ROc w S t x cs → cs.length = t.size
 | .int _,_,_,h => by rw [show _ = _ from h]; rfl
 | .bool,_,_,h => by rw [show _ = _ from h]; rfl
 | .str,_,_,h => by rw [show _ = _ from h]; rfl
 | .sl _ e,l,cs,h => by obtain ⟨A,cap,h1,_⟩ := h; rw [h1]; rfl
 | .pair a b,x,cs,h => by
  obtain ⟨c1,c2,h1,h2,h3,h4⟩ := h
  rw [h1,List.length_append,h2,ROc.length b _ _ h4]; rfl
theorem OWc.length:∀ (t:Ty) (x:t.den) (φ:Nat → Prop) (cs:List Value),OWc w t x φ cs → cs.length = t.size
 | .int _,_,_,_,h => by rw [show _ = _ from h]; rfl
 | .bool,_,_,_,h => by rw [show _ = _ from h]; rfl
 | .str,_,_,_,h => by rw [show _ = _ from h]; rfl
 | .sl _ e,l,_,cs,h => by obtain ⟨v,vals,h1,_⟩ := h; rw [h1]; rfl
 | .pair a b,x,_,cs,h => by
  obtain ⟨c1,c2,ψ1,ψ2,h1,h2,_,_,_,h3,h4⟩ := h
  rw [h1,List.length_append,h2,OWc.length b _ _ _ h4]; rfl
theorem ownR.move {base el size n:Nat} {v:Value} {xs:List Value} (h:ownR w base el size v n xs) (hb:∀ g,v.ownBlock = some g → w'.heap[g]? = w.heap[g]?):ownR w' base el size v n xs := by
 obtain ⟨h1,h2⟩ := h
 refine ⟨h1,?_⟩
 rcases h2 with h2 | ⟨g,cap,cur,hv,hg,hh,r⟩
 ·exact .inl h2
 ·exact .inr ⟨g,cap,cur,hv,hg,(hb g (by rw [hv]; rfl)).trans hh,r⟩
theorem OWc.move {φ φ':Nat → Prop} (hφ:∀ g,φ g → φ' g ∧ w'.heap[g]? = w.heap[g]?):∀ (t:Ty) (x:t.den) (cs:List Value),OWc w t x φ cs → OWc w' t x φ' cs := by
 intro t
 induction t generalizing φ φ' with
 | int _ => intro _ _ h; exact h
 | bool => intro _ _ h; exact h
 | str => intro _ _ h; exact h
 | sl _ e ih =>
  intro l cs h
  obtain ⟨v,vals,h1,h2,h3,ψ,h4,h5,h6⟩ := h
  refine ⟨v,vals,h1,ownR.move h2 (fun g hg => (hφ g (h3 g hg)).2),fun g hg => (hφ g (h3 g hg)).1,ψ,fun i g hg => ⟨(hφ g (h4 i g hg).1).1,(h4 i g hg).2⟩,h5,fun i x hx => ?_⟩
  exact ih (φ := ψ i) (φ' := ψ i) (fun g hg => ⟨hg,(hφ g (h4 i g hg).1).2⟩) _ _ (h6 i x hx)
 | pair a b iha ihb =>
  intro x cs h
  obtain ⟨c1,c2,ψ1,ψ2,h1,h2,h3,h4,h5,h6,h7⟩ := h
  exact ⟨c1,c2,ψ1,ψ2,h1,h2,fun g hg => (hφ g (h3 g hg)).1,fun g hg => (hφ g (h4 g hg)).1,h5,
   iha (fun g hg => ⟨hg,(hφ g (h3 g hg)).2⟩) _ _ h6,ihb (fun g hg => ⟨hg,(hφ g (h4 g hg)).2⟩) _ _ h7⟩
theorem ownR.has {base el size n:Nat} {v:Value} {xs:List Value} (h:ownR w base el size v n xs):∃ A cap,v = .slice A n cap ∧ (n ≤ cap ∧ (A = none → cap = 0)) ∧ (0 < n → ∃ g,A = some ⟨g,0,none⟩ ∧ v.ownBlock = some g ∧ Has w g 0 xs) := by
 rcases h.2 with ⟨rfl,rfl⟩ | ⟨g,cap,cur,rfl,_,hh,h1,h2,h3,h4⟩
 ·exact ⟨none,0,rfl,⟨Nat.le_refl _,fun _ => rfl⟩,fun h => absurd h (Nat.lt_irrefl _)⟩
 ·refine ⟨_,cap,rfl,⟨h1,fun h => (by cases h)⟩,fun _ => ⟨g,rfl,rfl,fun j u hu => ?_⟩⟩
  have := h.cells (g := g) rfl j u hu
  rw [show (⟨g,0 + j,none⟩:Addr) = (⟨g,0,none⟩:Addr).add j by unfold Addr.add; split <;> simp_all]
  exact this
theorem Has.part {g off n:Nat} {xs:List Value} (h:Has w g 0 xs):Has w g off ((xs.drop off).take n) := by
 intro j v hj
 rw [List.getElem?_take] at hj
 split at hj
 ·rw [List.getElem?_drop] at hj
  have := h _ _ hj
  rwa [Nat.zero_add] at this
 ·cases hj
theorem part_len {xs:List Value} {n sz i:Nat} (h:xs.length = n * sz) (hi:i < n):((xs.drop (i * sz)).take sz).length = sz := by
 rw [List.length_take,List.length_drop,h]
 have:(i + 1) * sz ≤ n * sz := Nat.mul_le_mul_right _ hi
 have e:(i + 1) * sz = i * sz + sz := by rw [Nat.add_mul,Nat.one_mul]
 omega
theorem OWc.ro {φ:Nat → Prop} (hφ:∀ g,φ g → S g):∀ (t:Ty) (x:t.den) (cs:List Value),OWc w t x φ cs → ROc w S t x cs := by
 intro t
 induction t generalizing φ with
 | int _ => intro _ _ h; exact h
 | bool => intro _ _ h; exact h
 | str => intro _ _ h; exact h
 | sl _ e ih =>
  intro l cs h
  obtain ⟨v,vals,rfl,h2,h3,ψ,h4,h5,h6⟩ := h
  obtain ⟨A,cap,e1,e2,e3⟩ := ownR.has h2
  refine ⟨A,cap,by rw [e1],e2,fun i x hx => ?_⟩
  have hi:i < l.length := (List.getElem?_eq_some_iff.1 hx).1
  obtain ⟨g,rfl,hg,hh⟩ := e3 (by omega)
  exact ⟨g,0,_,rfl,hφ g (h3 g hg),part_len h2.1 hi,by rw [Nat.zero_add]; exact hh.part,ih (φ := ψ i) (fun g hg => hφ g (h4 i g hg).1) _ _ (h6 i x hx)⟩
 | pair a b iha ihb =>
  intro x cs h
  obtain ⟨c1,c2,ψ1,ψ2,h1,h2,h3,h4,h5,h6,h7⟩ := h
  exact ⟨c1,c2,h1,h2,iha (fun g hg => hφ g (h3 g hg)) _ _ h6,ihb (fun g hg => hφ g (h4 g hg)) _ _ h7⟩
theorem RowRep.ro {φ:Nat → Prop} {r:Row} {v:Value} (h:RowRep w S φ r v) (hφ:∀ g,φ g → S' g) (hS:∀ g,S g → S' g):ROc w S' (.sl r.el r.e) r.l [v] := by
 obtain ⟨_,h⟩ := h
 split at h
 ·exact ROc.move (fun g hg => ⟨hS g hg,rfl⟩) _ _ _ h
 ·obtain ⟨vals,h2,h3,h4⟩ := h
  obtain ⟨A,cap,e1,e2,e3⟩ := ownR.has h2
  refine ⟨A,cap,by rw [e1],e2,fun i x hx => ?_⟩
  have hi:i < r.l.length := (List.getElem?_eq_some_iff.1 hx).1
  obtain ⟨g,rfl,hg,hh⟩ := e3 (by omega)
  refine ⟨g,0,_,rfl,hφ g (h3 g hg),part_len h2.1 hi,by rw [Nat.zero_add]; exact hh.part,?_⟩
  split at h4
  ·obtain ⟨ψ,h5,_,h6⟩ := h4
   exact OWc.ro (fun g hg => hφ g (h5 i g hg).1) _ _ _ (h6 i x hx)
  ·exact ROc.move (fun g hg => ⟨hS g hg,rfl⟩) _ _ _ (h4 i x hx)
theorem RowRep.move {φ φ':Nat → Prop} {r:Row} {v:Value} (hS:∀ g,S g → S' g ∧ w'.heap[g]? = w.heap[g]?) (hφ:∀ g,φ g → φ' g ∧ w'.heap[g]? = w.heap[g]?) (h:RowRep w S φ r v):RowRep w' S' φ' r v := by
 obtain ⟨hz,h⟩ := h
 refine ⟨hz,?_⟩
 split at h
 ·rename_i hf; rw [if_pos hf]; exact ROc.move hS _ _ _ h
 ·rename_i hf
  rw [if_neg hf]
  obtain ⟨vals,h2,h3,h4⟩ := h
  refine ⟨vals,ownR.move h2 (fun g hg => (hφ g (h3 g hg)).2),fun g hg => (hφ g (h3 g hg)).1,?_⟩
  split at h4
  ·rename_i hd
   rw [if_pos hd]
   obtain ⟨ψ,h5,h7,h6⟩ := h4
   exact ⟨ψ,fun i g hg => ⟨(hφ g (h5 i g hg).1).1,(h5 i g hg).2⟩,h7,fun i x hx => OWc.move (fun g hg => ⟨hg,(hφ g (h5 i g hg).1).2⟩) _ _ _ (h6 i x hx)⟩
  ·rename_i hd
   rw [if_neg hd]
   exact fun i x hx => ROc.move hS _ _ _ (h4 i x hx)
end
structure Ext (X Y:Ctx):Prop where
 S:∀ g,X.S g → Y.S g ∧ Y.w.heap[g]? = X.w.heap[g]?
 b:∀ b,X.bv b ≤ Y.bv b ∧ (X.bv b = Y.bv b → Y.ad b = X.ad b)
 r:∀ i c,X.rv i c ≤ Y.rv i c ∧ (X.rv i c = Y.rv i c → Y.sv i c = X.sv i c)
section
variable {X Y:Ctx}
theorem Ext.refl (X:Ctx):Ext X X := ⟨fun _ h => ⟨h,rfl⟩,fun _ => ⟨Nat.le_refl _,fun _ => rfl⟩,fun _ _ => ⟨Nat.le_refl _,fun _ => rfl⟩⟩
theorem Ext.trans {Z:Ctx} (h:Ext X Y) (k:Ext Y Z):Ext X Z :=
  ⟨fun g hg => ⟨(k.S g (h.S g hg).1).1,(k.S g (h.S g hg).1).2.trans (h.S g hg).2⟩,
   fun b => ⟨Nat.le_trans (h.b b).1 (k.b b).1,fun e => by have h1 := (h.b b).1; have h2 := (k.b b).1; rw [(k.b b).2 (by omega),(h.b b).2 (by omega)]⟩,
   fun i c => ⟨Nat.le_trans (h.r i c).1 (k.r i c).1,fun e => by have h1 := (h.r i c).1; have h2 := (k.r i c).1; rw [(k.r i c).2 (by omega),(h.r i c).2 (by omega)]⟩⟩
theorem All2.imp {α β:Type} {R R':α → β → Prop} (hR:∀ a b,R a b → R' a b):∀ (l:List α) (m:List β),All2 R l m → All2 R' l m
 | [],[],_ => trivial
 | _ :: l,_ :: m,h => ⟨hR _ _ h.1,All2.imp hR l m h.2⟩
theorem All2.length {α β:Type} {R:α → β → Prop}:∀ {l:List α} {m:List β},All2 R l m → l.length = m.length
 | [],[],_ => rfl
 | _ :: _,_ :: _,h => by simp [All2.length h.2]
theorem All2.append {α β:Type} {R:α → β → Prop}:∀ {l:List α} {m:List β} {l':List α} {m':List β},All2 R l m → All2 R l' m' → All2 R (l ++ l') (m ++ m')
 | [],[],_,_,_,h => h
 | _ :: _,_ :: _,_,_,h,h' => ⟨h.1,All2.append h.2 h'⟩
theorem All2.get {α β:Type} {R:α → β → Prop}:∀ {l:List α} {m:List β},All2 R l m → ∀ {i:Nat} {a:α},l[i]? = some a → ∃ b,m[i]? = some b ∧ R a b
 | a :: l,b :: m,h,0,x,hx => ⟨b,rfl,by simp at hx; subst hx; exact h.1⟩
 | a :: l,b :: m,h,i + 1,x,hx => by simpa using All2.get h.2 (i := i) (by simpa using hx)
theorem All2.of {α β:Type} {R:α → β → Prop}:∀ {l:List α} {m:List β},l.length = m.length → (∀ (i:Nat) (a:α) (b:β),l[i]? = some a → m[i]? = some b → R a b) → All2 R l m
 | [],[],_,_ => trivial
 | a :: l,b :: m,h,H => ⟨H 0 a b rfl rfl,All2.of (by simpa using h) (fun i x y hx hy => H (i + 1) x y (by simpa using hx) (by simpa using hy))⟩
theorem All2.take {α β:Type} {R:α → β → Prop}:∀ {l:List α} {m:List β} (n:Nat),All2 R l m → All2 R (l.take n) (m.take n)
 | [],[],n,_ => by cases n <;> trivial
 | _ :: _,_ :: _,0,_ => trivial
 | _ :: _,_ :: _,n + 1,h => ⟨h.1,All2.take n h.2⟩
theorem All2.drop {α β:Type} {R:α → β → Prop}:∀ {l:List α} {m:List β} (n:Nat),All2 R l m → All2 R (l.drop n) (m.drop n)
 | [],[],n,_ => by cases n <;> trivial
 | _ :: _,_ :: _,0,h => h
 | _ :: _,_ :: _,n + 1,h => All2.drop n h.2
theorem CRep0.ext (h:Ext X Y) (c:Cell) (v:Value) (hc:CRep0 X c v):CRep0 Y c v := by
 cases c with
 | sl z el e l => exact ⟨hc.1,ROc.move h.S _ _ _ hc.2⟩
 | row i c ver => exact ⟨Nat.le_trans hc.1 (h.r i c).1,hc.2.1,fun e => by have := hc.1; have h2 := (h.r i c).1; rw [(h.r i c).2 (by omega)]; exact hc.2.2 (by omega)⟩
 | ptr b ver off => exact ⟨Nat.le_trans hc.1 (h.b b).1,hc.2.1,fun e => by have := hc.1; have h2 := (h.b b).1; rw [(h.b b).2 (by omega)]; exact hc.2.2 (by omega)⟩
 | eptr i c ver k sz off => exact ⟨Nat.le_trans hc.1 (h.r i c).1,hc.2.1,fun e => by have := hc.1; have h2 := (h.r i c).1; rw [(h.r i c).2 (by omega)]; exact hc.2.2 (by omega)⟩
 | sptr e x off =>
  obtain ⟨g,o,c,h1,h2,h3,h4,h5⟩ := hc
  exact ⟨g,o,c,h1,(h.S g h2).1,h3,h4.of_block (h.S g h2).2,ROc.move h.S _ _ _ h5⟩
 | fptr f e x =>
  obtain ⟨g,o,p,h1,h2,h3,g2,o2,c,k1,k2,k3,k4,k5⟩ := hc
  exact ⟨g,o,p,h1,(h.S g h2).1,h3.of_block (h.S g h2).2,g2,o2,c,k1,(h.S g2 k2).1,k3,k4.of_block (h.S g2 k2).2,ROc.move h.S _ _ _ k5⟩
 | _ => exact hc
theorem CRep.ext (h:Ext X Y) (c:Cell) (v:Value) (hc:CRep X c v):CRep Y c v := by
 cases c with
 | fn f caps => obtain ⟨vs,h1,h2⟩ := hc; exact ⟨vs,h1,All2.imp (CRep0.ext h) _ _ h2⟩
 | undef => exact trivial
 | int k n => exact hc
 | bool b => exact hc
 | str s => exact hc
 | nil el e => exact hc
 | sl z el e l => exact CRep0.ext h (.sl z el e l) _ hc
 | own z d el e l => exact hc
 | row i c ver => exact CRep0.ext h (.row i c ver) _ hc
 | ptr b ver off => exact CRep0.ext h (.ptr b ver off) _ hc
 | eptr i c ver k sz off => exact CRep0.ext h (.eptr i c ver k sz off) _ hc
 | sptr e x off => exact CRep0.ext h (.sptr e x off) _ hc
 | fptr f e x => exact CRep0.ext h (.fptr f e x) _ hc
theorem CRep.one (c:Cell) (v:Value) (hc:CRep X c v) (hd:c.defd = true):v.oneCell' = true := by
 cases c with
 | fn f caps => obtain ⟨vs,rfl,_⟩ := hc; rfl
 | undef => cases hd
 | int k n => rw [show v = _ from hc]; rfl
 | bool b => rw [show v = _ from hc]; rfl
 | str s => rw [show v = _ from hc]; rfl
 | nil el e => rw [show v = _ from hc]; rfl
 | sl z el e l => obtain ⟨_,A,cap,h1,_⟩ := hc; simp only [List.cons.injEq,and_true] at h1; rw [h1]; rfl
 | own z d el e l => exact hc.elim
 | row i c ver => exact hc.2.1
 | ptr b ver off => exact hc.2.1
 | eptr i c ver k sz off => exact hc.2.1
 | sptr e x off => obtain ⟨g,o,c,rfl,_⟩ := hc; rfl
 | fptr f e x => obtain ⟨g,o,p,rfl,_⟩ := hc; rfl
theorem GRep.ext (h:Ext X Y) {g:Bool} {cs:List Cell} {v:Value} (hc:GRep X g cs v):GRep Y g cs v := by
 obtain ⟨vs,h1,h2,h3⟩ := hc
 exact ⟨vs,All2.imp (CRep.ext h) _ _ h1,h2,h3⟩
theorem VRep.ext (h:Ext X Y) (r:RV) (v:Value) (hc:VRep X r v):VRep Y r v := by
 cases r with
 | val g cs => exact GRep.ext h hc
 | tup us => obtain ⟨vs,h1,h2⟩ := hc; exact ⟨vs,h1,All2.imp (fun _ _ => GRep.ext h) _ _ h2⟩
end
theorem St.set_same (s:St) (l:Pl) (v:LV):s.set l v l = v := by simp [St.set]
theorem St.set_ne (s:St) {l m:Pl} (v:LV) (h:m ≠ l):s.set l v m = s m := by simp [St.set,h]
section
variable {G:Beg} {s s':St} {a:Act} {w w':World} {W W':Wit}
theorem Rel.change (h:Rel G s a w W) (Z:Pl → Prop) (hs:∀ l,¬ Z l → s' l = s l) (hT:∀ i,¬ Z (.T i) ∧ ¬ Z (.K i)) (hF:¬ Z .F)
  (hω:∀ g l,W.ω g = some l → ¬ Z l → W'.ω g = some l ∧ w'.heap[g]? = w.heap[g]?)
  (had:∀ b,¬ Z (.B b) → W'.ad b = W.ad b) (hsv:∀ i c,¬ Z (.R i c) → W'.sv i c = W.sv i c)
  (hX:Ext (ctx s w W) (ctx s' w' W'))
  (hB:∀ b,Z (.B b) → ∀ ver fz cs,s' (.B b) = .b ver fz cs → cs ≠ [] → (W'.ad b).spot = none ∧
   (if fz then (ctx s' w' W').S (W'.ad b).block else W'.ω (W'.ad b).block = some (.B b) ∧ ∃ cells el,w'.heap[(W'.ad b).block]? = some (.cells cells el (0,0))) ∧
   ∀ (j:Nat) (c:Cell),cs[j]? = some c → ∃ v,w'.cell? ((W'.ad b).add j) = some v ∧ v.oneCell' = true ∧ CRep (ctx s' w' W') c v)
  (hR:∀ i c,Z (.R i c) → ∀ ver r,s' (.R i c) = .r ver (some r) → RowRep w' (ctx s' w' W').S (fun g => W'.ω g = some (.R i c)) r (W'.sv i c))
  (hlt:∀ g,W'.ω g ≠ none → g < w'.heap.size) (hos:w'.os = w.os) (htape:w'.tape = w.tape) (hout:w'.output = w.output) (hgrow:w.heap.size ≤ w'.heap.size)
  (hold:∀ g,g < w.heap.size → W.ω g = none → W'.ω g = none ∧ w'.heap[g]? = w.heap[g]?):Rel G s' a w' W' where
 size := h.size
 defers := h.defers
 fix := h.fix
 K := fun i b hi => h.K i b (by rw [← hs _ (hT i).2]; exact hi)
 T := fun i rv hi => by
  rw [hs _ (hT i).1] at hi
  exact VRep.ext hX _ _ (h.T i rv hi)
 B := fun b ver fz cs hb hne => by
  by_cases hz:Z (.B b)
  ·exact hB b hz ver fz cs hb hne
  ·rw [hs _ hz] at hb
   obtain ⟨h1,h2,h3⟩ := h.B b ver fz cs hb hne
   rw [had b hz]
   have hblk:w'.heap[(W.ad b).block]? = w.heap[(W.ad b).block]? := by
    cases fz
    ·exact (hω _ _ h2.1 hz).2
    ·exact (hX.S _ h2).2
   refine ⟨h1,?_,fun j c hj => ?_⟩
   ·cases fz
    ·obtain ⟨h4,cells,el,h5⟩ := h2
     exact ⟨(hω _ _ h4 hz).1,cells,el,hblk.trans h5⟩
    ·exact (hX.S _ h2).1
   ·obtain ⟨v,h6,h7,h8⟩ := h3 j c hj
    refine ⟨v,?_,h7,CRep.ext hX _ _ h8⟩
    rw [World.cell?_of_block (w := w) (w' := w')]
    ·exact h6
    ·have:((W.ad b).add j).block = (W.ad b).block := by unfold Addr.add; split <;> rfl
     rw [this]
     exact hblk
 R := fun i c ver r hr => by
  by_cases hz:Z (.R i c)
  ·exact hR i c hz ver r hr
  ·rw [hs _ hz] at hr
   rw [hsv i c hz]
   exact RowRep.move hX.S (fun g hg => hω g _ hg hz) (h.R i c ver r hr)
 lt := hlt
 os := hos.trans h.os
 tape := htape.trans h.tape
 output := hout.trans h.output
 grow := Nat.le_trans h.grow hgrow
 old := fun g hg hO => by
  obtain ⟨h1,h2⟩ := h.old g hg hO
  rcases h1 with ⟨k1,k2⟩ | ⟨k1,k2⟩
  ·obtain ⟨h3,h4⟩ := hold g (Nat.lt_of_lt_of_le hg h.grow) k2
   exact ⟨.inl ⟨k1,h3⟩,h4.trans h2⟩
  ·obtain ⟨h3,h4⟩ := hω g _ k2 hF
   exact ⟨.inr ⟨k1,h3⟩,h4.trans h2⟩
theorem ctx_setT (s:St) (w:World) (W:Wit) (d:Nat) (r:RV):ctx (s.set (.T d) (.t r)) w W = ctx s w W := by
 unfold ctx
 congr 1
theorem ctx_setK (s:St) (w:World) (W:Wit) (d:Nat) (r:Option (Option Bool)):ctx (s.set (.K d) (.k r)) w W = ctx s w W := by
 unfold ctx
 congr 1
theorem Rel.setK (h:Rel G s a w W) {d:Nat} {r:Option (Option Bool)} (hr:∀ b,r = some b → a.tmps.getD d undef = kval b):Rel G (s.set (.K d) (.k r)) a w W where
 size := h.size
 defers := h.defers
 fix := h.fix
 K := fun i b hi => by
  by_cases e:i = d
  ·subst e
   rw [St.set_same] at hi
   injection hi with hi
   exact hr b hi
  ·rw [St.set_ne _ _ (by simpa using e)] at hi
   exact h.K i b hi
 T := fun i rv hi => by rw [ctx_setK]; rw [St.set_ne _ _ (by simp)] at hi; exact h.T i rv hi
 B := fun b ver fz cs hb hne => by rw [ctx_setK]; rw [St.set_ne _ _ (by simp)] at hb; exact h.B b ver fz cs hb hne
 R := fun i c ver r' hr => by rw [ctx_setK]; rw [St.set_ne _ _ (by simp)] at hr; exact h.R i c ver r' hr
 lt := h.lt
 os := h.os
 tape := h.tape
 output := h.output
 grow := h.grow
 old := h.old
theorem Rel.put (h:Rel G s a w W) {d:Nat} (hd:G.may d) {r:RV} {v:Value} (hv:VRep (ctx s w W) r v):Rel G ((s.set (.T d) (.t r)).set (.K d) (.k none)) (a.put (some d) v) w W where
 size := by simpa [Act.put] using h.size
 defers := h.defers
 fix := fun i v hi => by
  have hne:i ≠ d := by rintro rfl; rw [hd.2] at hi; cases hi
  rw [← h.fix i v hi]
  simp only [Act.put,Array.getD_eq_getD_getElem?]
  rw [Array.getElem?_setIfInBounds_ne (Ne.symm hne)]
 K := fun i b hi => by
  by_cases e:i = d
  ·subst e
   rw [St.set_same] at hi
   injection hi with hi
   cases hi
  ·rw [St.set_ne _ _ (by simpa using e),St.set_ne _ _ (by simp)] at hi
   rw [← h.K i b hi]
   simp only [Act.put,Array.getD_eq_getD_getElem?]
   rw [Array.getElem?_setIfInBounds_ne (Ne.symm e)]
 T := fun i rv hi => by
  rw [ctx_setK,ctx_setT]
  rw [St.set_ne _ _ (by simp)] at hi
  by_cases e:i = d
  ·subst e
   rw [St.set_same] at hi
   injection hi with hi
   subst hi
   have:(a.put (some i) v).tmps.getD i undef = v := by simp [Act.put,h.size,hd.1]
   rw [this]
   exact hv
  ·rw [St.set_ne _ _ (by simpa using e)] at hi
   have:(a.put (some d) v).tmps.getD i undef = a.tmps.getD i undef := by
    simp only [Act.put,Array.getD_eq_getD_getElem?]
    rw [Array.getElem?_setIfInBounds_ne (Ne.symm e)]
   rw [this]
   exact h.T i rv hi
 B := fun b ver fz cs hb hne => by
  rw [ctx_setK,ctx_setT]
  rw [St.set_ne _ _ (by simp),St.set_ne _ _ (by simp)] at hb
  exact h.B b ver fz cs hb hne
 R := fun i c ver r' hr => by
  rw [ctx_setK,ctx_setT]
  rw [St.set_ne _ _ (by simp),St.set_ne _ _ (by simp)] at hr
  exact h.R i c ver r' hr
 lt := h.lt
 os := h.os
 tape := h.tape
 output := h.output
 grow := h.grow
 old := h.old
theorem Rel.known (h:Rel G s a w W) {g:Nat} {b:Bool} (hg:s (.T g) = .t (one (.bool b))):s.set (.T g) (.t (one (.bool b))) = s := by
 funext m
 by_cases e:m = .T g
 ·subst e; rw [St.set_same,hg]
 ·rw [St.set_ne _ _ e]
theorem Rel.drew (h:Rel G s a w W):Rel G s a { w with drawn := w.drawn + 1 } W :=
 h.change (fun _ => False) (fun _ _ => rfl) (fun _ => ⟨id,id⟩) id (fun _ _ hg _ => ⟨hg,rfl⟩) (fun _ _ => rfl) (fun _ _ _ => rfl)
  ⟨fun _ hg => ⟨hg,rfl⟩,fun _ => ⟨Nat.le_refl _,fun _ => rfl⟩,fun _ _ => ⟨Nat.le_refl _,fun _ => rfl⟩⟩ (fun _ => False.elim) (fun _ _ => False.elim) h.lt rfl rfl rfl (Nat.le_refl _) (fun _ _ hg => ⟨hg,rfl⟩)
variable {P:Program} {E:Env}
theorem GRep_one {X:Ctx} {c:Cell} {v:Value}:GRep X false [c] v ↔ CRep X c v := by
 constructor
 ·rintro ⟨vs,h1,h2,_⟩
  match vs,h1 with
  | [u],h1 => simp at h2; subst h2; exact h1.1
 ·intro h
  exact ⟨[v],⟨h,trivial⟩,rfl,fun _ => rfl⟩
theorem VRep_one {X:Ctx} {c:Cell} {v:Value}:VRep X (one c) v ↔ CRep X c v := GRep_one
theorem elemP_run {t:Nat} {x:Nat×Ty×Nat} (h:(Prg.elemP E t).run s = some (x,s')):s' = s ∧ ∃ a b c d e f g,E.tt t = some ⟨a,b,c,d,some x,e,f,g⟩ := by
 unfold Prg.elemP at h
 split at h
 ·simp only [Prg.run,Option.some.injEq,Prod.mk.injEq] at h
  obtain ⟨rfl,rfl⟩ := h
  exact ⟨rfl,_,_,_,_,_,_,_,by assumption⟩
 ·cases h
theorem tiP_run {t:Nat} {x:TI} (h:(Prg.tiP E t).run s = some (x,s')):s' = s ∧ E.tt t = some x := by
 unfold Prg.tiP at h
 split at h
 ·simp only [Prg.run,Option.some.injEq,Prod.mk.injEq] at h
  obtain ⟨rfl,rfl⟩ := h
  exact ⟨rfl,by assumption⟩
 ·cases h
theorem bind_run {α β:Type} {p:Prg α} {f:α → Prg β} {y:β} (h:(p >>= f).run s = some (y,s')):∃ x s1,p.run s = some (x,s1) ∧ (f x).run s1 = some (y,s') := by
 rw [Prg.run_bind,Option.bind_eq_some_iff] at h
 obtain ⟨⟨x,s1⟩,h1,h2⟩ := h
 exact ⟨x,s1,h1,h2⟩
theorem pure_run {α:Type} {x y:α} (h:(Prg.pure x).run s = some (y,s')):y = x ∧ s' = s := by
 simp only [Prg.run,Option.some.injEq,Prod.mk.injEq] at h
 exact ⟨h.1.symm,h.2.symm⟩
theorem getT_run {α:Type} {x:Nat} {k:RV → Prg α} {y:α} (h:(Prg.getT x k).run s = some (y,s')):∃ rv,s (.T x) = .t rv ∧ (k rv).run s = some (y,s') := by
 simp only [Prg.getT,Prg.run] at h
 split at h
 ·exact ⟨_,by assumption,h⟩
 ·cases h
theorem getB_run {α:Type} {b ver:Nat} {k:Bool → List Cell → Prg α} {y:α} (h:(Prg.getB b ver k).run s = some (y,s')):∃ fz cs,s (.B b) = .b ver fz cs ∧ (k fz cs).run s = some (y,s') := by
 simp only [Prg.getB,Prg.run] at h
 split at h
 ·split at h
  ·rename_i h1 h2; subst h2; exact ⟨_,_,h1,h⟩
  ·cases h
 ·cases h
theorem getR_run {α:Type} {i c ver:Nat} {k:Row → Prg α} {y:α} (h:(Prg.getR i c ver k).run s = some (y,s')):∃ r,s (.R i c) = .r ver (some r) ∧ (k r).run s = some (y,s') := by
 simp only [Prg.getR,Prg.run] at h
 split at h
 ·split at h
  ·rename_i h1 h2; subst h2; exact ⟨_,h1,h⟩
  ·cases h
 ·cases h
theorem newR_run {α:Type} {i c:Nat} {r:Option Row} {k:Nat → Prg α} {y:α} (h:(Prg.newR i c r k).run s = some (y,s')):∃ ver r0,s (.R i c) = .r ver r0 ∧ (k (ver + 1)).run (s.set (.R i c) (.r (ver + 1) r)) = some (y,s') := by
 simp only [Prg.newR,Prg.run] at h
 split at h
 ·exact ⟨_,_,by assumption,h⟩
 ·cases h
theorem newB_run {α:Type} {b:Nat} {fz:Bool} {cs:List Cell} {k:Nat → Prg α} {y:α} (h:(Prg.newB b fz cs k).run s = some (y,s')):∃ ver fz0 cs0,s (.B b) = .b ver fz0 cs0 ∧ (k (ver + 1)).run (s.set (.B b) (.b (ver + 1) fz cs)) = some (y,s') := by
 simp only [Prg.newB,Prg.run] at h
 split at h
 ·exact ⟨_,_,_,by assumption,h⟩
 ·cases h
theorem ofOpt_run {α:Type} {x:Option α} {y:α} (h:(Prg.ofOpt x).run s = some (y,s')):x = some y ∧ s' = s := by
 cases x with
 | none => cases h
 | some a => obtain ⟨rfl,rfl⟩ := pure_run h; exact ⟨rfl,rfl⟩
theorem sure_run {b:Bool} {u:Unit} (h:(Prg.sure b).run s = some (u,s')):b = true ∧ s' = s := by
 cases b with
 | false => cases h
 | true => exact ⟨rfl,(pure_run h).2⟩
theorem chk_run {p:Prop} [Decidable p] {u:Unit} (h:(Prg.chk p).run s = some (u,s')):p ∧ s' = s := by
 unfold Prg.chk at h
 split at h
 ·exact ⟨by assumption,(pure_run h).2⟩
 ·cases h
theorem ev_run (h:Rel G s a w W) {t:Nat} {x:Operand} {r:RV} (hr:(Prg.ev E t x).run s = some (r,s')):s' = s ∧ VRep (ctx s w W) r (a.eval x) := by
 cases x with
 | tmp x =>
  obtain ⟨rv,h1,h2⟩ := getT_run hr
  obtain ⟨rfl,rfl⟩ := pure_run h2
  exact ⟨rfl,h.T x _ h1⟩
 | const v =>
  simp only [Prg.ev] at hr
  unfold Prg.constP at hr
  split at hr
  ·obtain ⟨rfl,rfl⟩ := pure_run hr; exact ⟨rfl,VRep_one.2 rfl⟩
  ·obtain ⟨rfl,rfl⟩ := pure_run hr; exact ⟨rfl,VRep_one.2 rfl⟩
  ·obtain ⟨rfl,rfl⟩ := pure_run hr; exact ⟨rfl,VRep_one.2 rfl⟩
  ·obtain ⟨y,s1,h1,h2⟩ := bind_run hr
   obtain ⟨rfl,_⟩ := elemP_run h1
   obtain ⟨rfl,rfl⟩ := pure_run h2
   exact ⟨rfl,VRep_one.2 rfl⟩
  ·obtain ⟨rfl,rfl⟩ := pure_run hr; exact ⟨rfl,VRep_one.2 trivial⟩
  ·cases hr
 | func f =>
  obtain ⟨rfl,rfl⟩ := pure_run hr
  exact ⟨rfl,VRep_one.2 ⟨[],rfl,trivial⟩⟩
 | global g => cases hr
theorem evs_run (h:Rel G s a w W) {ts:Nat → Nat} (xs:List Operand):∀ (j:Nat) (r:List RV) (s':St),(Prg.evs E ts j xs).run s = some (r,s') → s' = s ∧ All2 (VRep (ctx s w W)) r (xs.map a.eval) := by
 induction xs with
 | nil => intro j r s' hr; obtain ⟨rfl,rfl⟩ := pure_run hr; exact ⟨rfl,trivial⟩
 | cons x xs ih =>
  intro j r s' hr
  obtain ⟨y,s1,h1,h2⟩ := bind_run hr
  obtain ⟨rfl,h3⟩ := ev_run h h1
  obtain ⟨z,s2,h4,h5⟩ := bind_run h2
  obtain ⟨rfl,h6⟩ := ih _ _ _ h4
  obtain ⟨rfl,rfl⟩ := pure_run h5
  exact ⟨rfl,h3,h6⟩
theorem asCell_run {r:RV} {c:Cell} (h:(Prg.asCell r).run s = some (c,s')):s' = s ∧ r = one c := by
 unfold Prg.asCell at h
 split at h
 ·obtain ⟨rfl,rfl⟩ := pure_run h; exact ⟨rfl,rfl⟩
 ·cases h
theorem evC_run (h:Rel G s a w W) {t:Nat} {x:Operand} {c:Cell} (hr:(Prg.evC E t x).run s = some (c,s')):s' = s ∧ CRep (ctx s w W) c (a.eval x) := by
 obtain ⟨y,s1,h1,h2⟩ := bind_run hr
 obtain ⟨rfl,h3⟩ := ev_run h h1
 obtain ⟨rfl,rfl⟩ := asCell_run h2
 exact ⟨rfl,VRep_one.1 h3⟩
theorem asIntP_run (h:Rel G s a w W) {t:Nat} {x:Operand} {n:Int} (hr:(Prg.asIntP E t x).run s = some (n,s')):s' = s ∧ ∃ k,a.eval x = .int k n := by
 obtain ⟨y,s1,h1,h2⟩ := bind_run hr
 obtain ⟨rfl,h3⟩ := ev_run h h1
 split at h2
 ·obtain ⟨rfl,rfl⟩ := pure_run h2; exact ⟨rfl,_,VRep_one.1 h3⟩
 ·cases h2
theorem dstP_run {d:Option Nat} {n:Nat} (h:(Prg.dstP d).run s = some (n,s')):s' = s ∧ d = some n := by
 cases d with
 | none => cases h
 | some d => obtain ⟨rfl,rfl⟩ := pure_run h; exact ⟨rfl,rfl⟩
def OpOk (P:Program) (E:Env) (G:Beg) (o:Oper):Prop :=
 ∀ (s s':St) (r:RV) (a:Act) (w:World) (W:Wit),(Prg.opP E o).run s = some (r,s') → Rel G s a w W →
  ∀ (K:Act → World → Prop) (Q:Exit → Act → World → Prop),(∀ v w' W',Rel G s' a w' W' → VRep (ctx s' w' W') r v → K (a.put o.dst v) w') → o.wp P a w K Q
theorem wp_value {o:Oper} {a:Act} {w w':World} {v:Value} {K:Act → World → Prop} {Q:Exit → Act → World → Prop}
  (h:(execOp a.eval o).run P w = .ok (.value v) w') (hK:K (a.put o.dst v) w'):o.wp P a w K Q := by
 unfold Oper.wp
 rw [h]
 exact hK
theorem wp_skip' {o:Oper} {a:Act} {w w':World} {K:Act → World → Prop} {Q:Exit → Act → World → Prop}
  (h:(execOp a.eval o).run P w = .ok .skip w') (hK:K (a.put o.dst undef) w'):o.wp P a w K Q := by
 unfold Oper.wp
 rw [h]
 exact hK
theorem ok_move {o:Oper} {x:Operand} (ho:o.op = .move x ∨ o.op = .assign x):OpOk P E G o := by
 intro s s' r a w W hr h K Q hK
 have hr':(Prg.ev E o.type x).run s = some (r,s') := by
  rcases ho with ho | ho <;> simpa [Prg.opP,ho] using hr
 obtain ⟨rfl,hv⟩ := ev_run h hr'
 refine wp_value (v := a.eval x) (w' := w) ?_ (hK _ _ _ h hv)
 rcases ho with ho | ho <;> simp [execOp,ho]
end
theorem isZero_spec (t:Ty):∀ (cs r:List Value),isZero t cs = some r → ∃ zs,cs = zs ++ r ∧ zs.length = t.size ∧ (∀ X:Ctx,All2 (CRep X) (zeroCells t) zs) ∧ (∀ v ∈ zs,v.oneCell' = true) ∧ ∀ (w:World) (S φ:Nat → Prop),ROc w S t t.zero zs ∧ OWc w t t.zero φ zs := by
 induction t with
 | int k =>
  intro cs r h
  simp only [isZero] at h
  split at h
  ·split at h
   ·rename_i hk
    obtain ⟨rfl,rfl⟩ := hk
    cases h
    exact ⟨[_],rfl,rfl,fun X => ⟨rfl,trivial⟩,by simp [Value.oneCell'],fun w S φ => ⟨rfl,rfl⟩⟩
   ·cases h
  ·cases h
 | bool =>
  intro cs r h
  simp only [isZero] at h
  split at h
  ·split at h
   ·rename_i hk
    subst hk
    cases h
    exact ⟨[_],rfl,rfl,fun X => ⟨rfl,trivial⟩,by simp [Value.oneCell'],fun w S φ => ⟨rfl,rfl⟩⟩
   ·cases h
  ·cases h
 | str =>
  intro cs r h
  simp only [isZero] at h
  split at h
  ·rename_i s _
   split at h
   ·rename_i hs
    cases h
    have:s = ⟨#[]⟩ := by
     obtain ⟨d⟩ := s
     have:d.size = 0 := hs
     congr
     exact Array.eq_empty_of_size_eq_zero this
    subst this
    exact ⟨[_],rfl,rfl,fun X => ⟨rfl,trivial⟩,by simp [Value.oneCell'],fun w S φ => ⟨rfl,rfl⟩⟩
   ·cases h
  ·cases h
 | sl el e =>
  intro cs r h
  simp only [isZero] at h
  split at h
  ·split at h
   ·rename_i hk
    obtain ⟨rfl,rfl,rfl⟩ := hk
    cases h
    refine ⟨[.slice none 0 0],rfl,rfl,fun X => ⟨rfl,trivial⟩,by simp [Value.oneCell'],fun w S φ => ⟨⟨none,0,rfl,⟨Nat.le_refl _,fun _ => rfl⟩,fun i x hx => by simp [Ty.zero] at hx⟩,?_⟩⟩
    exact ⟨_,[],rfl,ownR_nil _ _ _ _,fun g hg => by simp [Value.ownBlock] at hg,fun _ _ => False,fun _ _ hg => hg.elim,fun _ _ _ hg => hg.elim,fun i x hx => by simp [Ty.zero] at hx⟩
   ·cases h
  ·cases h
 | pair a b iha ihb =>
  intro cs r h
  simp only [isZero,Option.bind_eq_some_iff] at h
  obtain ⟨m,h1,h2⟩ := h
  obtain ⟨z1,rfl,l1,r1,o1,q1⟩ := iha _ _ h1
  obtain ⟨z2,rfl,l2,r2,o2,q2⟩ := ihb _ _ h2
  refine ⟨z1 ++ z2,by simp,by simp [Ty.size,l1,l2],fun X => (r1 X).append (r2 X),fun v hv => ?_,fun w S φ => ⟨⟨z1,z2,rfl,l1,(q1 w S φ).1,(q2 w S φ).1⟩,?_⟩⟩
  ·rcases List.mem_append.1 hv with hv | hv
   ·exact o1 v hv
   ·exact o2 v hv
  ·exact ⟨z1,z2,fun _ => False,fun _ => False,rfl,l1,fun _ h => h.elim,fun _ h => h.elim,fun _ h => h.elim,(q1 w S _).2,(q2 w S _).2⟩
theorem zeroOk_spec {t:Ty} {cs:List Value} (h:zeroOk t cs = true):cs.length = t.size ∧ (∀ X:Ctx,All2 (CRep X) (zeroCells t) cs) ∧ (∀ v ∈ cs,v.oneCell' = true) ∧ ∀ (w:World) (S φ:Nat → Prop),ROc w S t t.zero cs ∧ OWc w t t.zero φ cs := by
 unfold zeroOk at h
 split at h
 ·rename_i h1
  obtain ⟨zs,e,h2,h3,h4,h5⟩ := isZero_spec t _ _ h1
  rw [List.append_nil] at e
  subst e
  exact ⟨h2,h3,h4,h5⟩
 ·cases h
structure TIOk (P:Program) (t:Nat) (ti:TI):Prop where
 info:∃ i,P.info? t = some i ∧ i.size = ti.size
 desc:∃ d,P.underlying t = some d ∧ d.isRow = ti.agg
 zero:∃ i z,P.info? t = some i ∧ i.zero = some z ∧ z.cells.size = ti.size ∧ (∀ X:Ctx,All2 (CRep X) ti.zero z.cells.toList) ∧ (∀ v ∈ z.cells.toList,v.oneCell' = true)
 one:ti.agg = false → ti.size = 1
 pos:0 < ti.size
 flds:∀ (f off sz:Nat),ti.flds[f]? = some (off,sz) → ti.agg = true ∧ ∃ fs fd i,P.underlying t = some (.struct fs) ∧ fs[f]? = some fd ∧ fd.offset = off ∧ P.info? fd.type = some i ∧ i.size = sz ∧ sz ≠ 0
 bas:∀ ty,ti.bas = some ty → (ty = .bool → P.underlying t = some .bool) ∧ (ty = .str → P.underlying t = some .string) ∧ ∀ k,ty = .int k → P.underlying t = some (.int k)
 strct:ti.agg = true → ∃ fs,P.underlying t = some (.struct fs)
 places:∀ fs,P.underlying t = some (.struct fs) → fs.toList.mapM (fun f => (P.info? f.type).map fun i => (f.offset,i.size)) = some ti.flds
 eqt:∀ ts,ti.eqt = some ts → (∃ fs,P.underlying t = some (.struct fs)) ∧ P.eqGuardType P.depth t = false ∧ eqTys P 8 t = some ts
 fagg:∀ (f:Nat) (b:Bool),ti.fagg[f]? = some (some b) → ∃ fs fd,P.underlying t = some (.struct fs) ∧ fs[f]? = some fd ∧ aggOf P fd.type = some b
 elem:∀ el e bytes,ti.elem = some (el,e,bytes) → P.underlying t = some (.slice el) ∧ ∃ ei z,P.info? el = some ei ∧ ei.size = e.size ∧ ei.bytes = bytes ∧ 0 < ei.size ∧ ei.zero = some z ∧ zeroOk e z.cells.toList = true
theorem fldsOf_spec {P:Program}:∀ (fs:List Field) (o:Nat) (fl:List (Nat×Nat)),fldsOf P o fs = some fl → ∀ (f off sz:Nat),fl[f]? = some (off,sz) → ∃ fd i,fs[f]? = some fd ∧ fd.offset = off ∧ P.info? fd.type = some i ∧ i.size = sz ∧ sz ≠ 0 := by
 intro fs
 induction fs with
 | nil => intro o fl h f off sz hf; simp [fldsOf] at h; subst h; simp at hf
 | cons x fs ih =>
  intro o fl h f off sz hf
  simp only [fldsOf] at h
  split at h
  ·rename_i i hi
   split at h
   ·rename_i hx
    obtain ⟨fl',h1,rfl⟩ := Option.map_eq_some_iff.1 h
    cases f with
    | zero =>
     simp at hf
     exact ⟨x,i,rfl,by rw [hx.1,hf.1],hi,hf.2,by rw [← hf.2]; exact hx.2⟩
    | succ f => simpa using ih _ _ h1 f off sz (by simpa using hf)
   ·cases h
  ·cases h
theorem chkO_spec {b:Bool} {u:Unit} (h:chkO b = some u):b = true := by
 unfold chkO at h
 split at h
 ·assumption
 ·cases h
theorem aggOf_spec {P:Program} {t:Nat} {g:Bool} (h:aggOf P t = some g):∃ d,P.underlying t = some d ∧ d.isRow = g ∧ (g = true → ∃ fs,d = .struct fs) := by
 unfold aggOf at h
 split at h
 ·rename_i fs hd; cases h; exact ⟨_,hd,rfl,fun _ => ⟨fs,rfl⟩⟩
 ·cases h
 ·rename_i d h1 h2 hd
  cases h
  refine ⟨d,hd,?_,fun e => by cases e⟩
  cases d <;> first | rfl | (exact (h2 _ _ rfl).elim) | (exact (h1 _ rfl).elim)
 ·cases h
theorem zcells_spec (z:Value):z.cells.toList = (zcells z).2 ∧ ((zcells z).1 = false → (zcells z).2 = [z]) := by
 cases z <;> simp [zcells,Value.cells]
theorem fldsOf_places {P:Program}:∀ (fs:List Field) (o:Nat) (fl:List (Nat×Nat)),fldsOf P o fs = some fl → fs.mapM (fun f => (P.info? f.type).map fun i => (f.offset,i.size)) = some fl := by
 intro fs
 induction fs with
 | nil => intro o fl h; simp only [fldsOf] at h; cases h; rfl
 | cons x fs ih =>
  intro o fl h
  simp only [fldsOf] at h
  split at h
  ·rename_i i hi
   split at h
   ·rename_i hx
    obtain ⟨fl',h1,rfl⟩ := Option.map_eq_some_iff.1 h
    simp [List.mapM_cons,hi,ih _ _ h1,hx.1]
   ·cases h
  ·cases h
theorem basOf_spec {P:Program} {t:Nat} {ty:Ty} (h:basOf P t = some ty):(ty = .bool → P.underlying t = some .bool) ∧ (ty = .str → P.underlying t = some .string) ∧ ∀ k,ty = .int k → P.underlying t = some (.int k) := by
 unfold basOf at h
 split at h <;> cases h
 ·rename_i hd; exact ⟨fun e => by (cases e),fun e => by (cases e),fun k e => by (cases e; exact hd)⟩
 ·rename_i hd; exact ⟨fun _ => hd,fun e => by (cases e),fun k e => by (cases e)⟩
 ·rename_i hd; exact ⟨fun e => by (cases e),fun _ => hd,fun k e => by (cases e)⟩
theorem mkTI_spec {P:Program} {t:Nat} {ti:TI} (h:mkTI P t = some ti):TIOk P t ti := by
 simp only [mkTI,Option.bind_eq_some_iff] at h
 obtain ⟨i,hi,g,hg,z,hz,u,hu,h⟩ := h
 have hu := chkO_spec hu
 simp only [Bool.and_eq_true,beq_iff_eq,decide_eq_true_eq] at hu
 obtain ⟨⟨hg1,hl1⟩,hpos⟩ := hu
 obtain ⟨d,hd,hrow,hst⟩ := aggOf_spec hg
 obtain ⟨hz1,hz2⟩ := zcells_spec z
 have hsz:z.cells.size = i.size := by rw [← Array.length_toList,hz1,hl1]
 have hone:g = false → i.size = 1 := fun e => by rw [← hl1,hz2 (hg1.trans e)]; rfl
 split at h
 ·obtain ⟨u,hu,h⟩ := Option.bind_eq_some_iff.1 h
  have hu := chkO_spec hu
  simp only [Bool.and_eq_true,beq_iff_eq] at hu
  obtain ⟨⟨h1,h2⟩,h3⟩ := hu
  cases h
  subst h2
  have hl:z.cells.toList = [z] := hz1.trans (hz2 hg1)
  refine ⟨⟨i,hi,h1⟩,⟨d,hd,hrow⟩,⟨i,z,hi,hz,hsz.trans h1,fun X => ?_,fun v hv => ?_⟩,fun _ => rfl,(by simp),fun f off sz hf => by simp at hf,fun ty hb => (by cases hb),(fun e => by cases e),(fun fs hfs => by rw [hd] at hfs; cases hfs; cases hrow),(fun ts h => by cases h),(fun f b hf => by simp at hf),fun el e bytes he => by cases he⟩
  ·rw [hl]; exact ⟨trivial,trivial⟩
  ·rw [hl] at hv
   simp only [List.mem_singleton] at hv
   subst hv
   cases v <;> first | rfl | (simp [plain1] at h3)
 ·rename_i ty hty
  obtain ⟨u,hu,h⟩ := Option.bind_eq_some_iff.1 h
  have hu := chkO_spec hu
  simp only [Bool.and_eq_true,beq_iff_eq] at hu
  obtain ⟨h1,h2⟩ := hu
  obtain ⟨h3,h4,h5,_⟩ := zeroOk_spec h2
  rw [← hz1] at h4 h5
  unfold tiRest at h
  split at h
  ·rename_i fs hfs
   obtain ⟨fl,h6,h⟩ := Option.bind_eq_some_iff.1 h
   cases h
   have hgt:g = true := by rw [hd] at hfs; cases hfs; exact hrow.symm
   exact ⟨⟨i,hi,rfl⟩,⟨d,hd,hrow⟩,⟨i,z,hi,hz,hsz,h4,h5⟩,hone,hpos,fun f off sz hf => by
    obtain ⟨fd,i',e1,e2,e3,e4⟩ := fldsOf_spec _ _ _ h6 f off sz hf
    exact ⟨hgt,fs,fd,i',hfs,by simpa using e1,e2,e3,e4⟩,fun ty hb => (by cases hb),(fun e => ⟨fs,hfs⟩),(fun fs' hfs' => by rw [hfs] at hfs'; cases hfs'; exact fldsOf_places _ _ _ h6),(fun ts h => by
     simp only [eqtOf] at h
     split at h
     ·rename_i hg; exact ⟨⟨fs,hfs⟩,hg,h⟩
     ·cases h),(fun f b hf => by
     simp only [List.getElem?_map,Option.map_eq_some_iff] at hf
     obtain ⟨fd,q1,q2⟩ := hf
     exact ⟨fs,fd,hfs,by simpa using q1,q2⟩),fun el e bytes he => by cases he⟩
  ·rename_i el hel
   simp only [Option.bind_eq_some_iff] at h
   obtain ⟨ety,e1,ei,e2,ez,e3,u,e4,h⟩ := h
   have e4 := chkO_spec e4
   simp only [Bool.and_eq_true,beq_iff_eq,decide_eq_true_eq] at e4
   cases h
   exact ⟨⟨i,hi,rfl⟩,⟨d,hd,hrow⟩,⟨i,z,hi,hz,hsz,h4,h5⟩,hone,hpos,fun f off sz hf => by simp at hf,fun ty hb => (by cases hb),(fun e => by obtain ⟨fs,rfl⟩ := hst e; rw [hd] at hel; cases hel),(fun fs hfs => by rw [hel] at hfs; cases hfs),(fun ts h => by cases h),(fun f b hf => by simp at hf),fun el' e' b' he => by
    cases he
    exact ⟨hel,ei,ez,e2,e4.1.1.symm,rfl,e4.2,e3,e4.1.2⟩⟩
  ·cases h
   exact ⟨⟨i,hi,rfl⟩,⟨d,hd,hrow⟩,⟨i,z,hi,hz,hsz,h4,h5⟩,hone,hpos,fun f off sz hf => by simp at hf,fun ty hb => basOf_spec hb,(fun e => by obtain ⟨fs,rfl⟩ := hst e; exact ⟨fs,hd⟩),(fun fs hfs => by rename_i hne _; exact (hne _ hfs).elim),(fun ts h => by cases h),(fun f b hf => by simp at hf),fun el e bytes he => by cases he⟩
section
variable {G:Beg} {s s':St} {a:Act} {w w':World} {W W':Wit} {P:Program} {E:Env}
def Reads (w:World) (r:Row) (v:Value):Prop := zOk r.z v ∧ ROc w (fun _ => True) (.sl r.el r.e) r.l [v]
theorem Reads.slice {r:Row} {v:Value} (h:Reads w r v):∃ A cap,v = .slice A r.l.length cap ∧ (r.l.length ≤ cap ∧ (A = none → cap = 0)) ∧ ∀ (i:Nat) (x:r.e.den),r.l[i]? = some x → ∃ g off c,A = some ⟨g,off,none⟩ ∧ c.length = r.e.size ∧ Has w g (off + i * r.e.size) c ∧ ROc w (fun _ => True) r.e x c := by
 obtain ⟨_,A,cap,h1,h2,h3⟩ := h
 refine ⟨A,cap,by simpa using h1,h2,fun i x hx => ?_⟩
 obtain ⟨g,off,c,e1,_,e2,e3,e4⟩ := h3 i x hx
 exact ⟨g,off,c,e1,e2,e3,e4⟩
theorem row_reads (h:Rel G s a w W) {i c ver:Nat} {r:Row} {v:Value} (hr:s (.R i c) = .r ver (some r)) (hv:CRep (ctx s w W) (.row i c ver) v):v = W.sv i c ∧ Reads w r v := by
 have hver:rvOf s i c = ver := by simp [rvOf,hr]
 have e:v = W.sv i c := hv.2.2 hver.symm
 subst e
 have hR := h.R i c ver r hr
 exact ⟨rfl,hR.1,hR.ro (S' := fun _ => True) (fun _ _ => trivial) (fun _ _ => trivial)⟩
theorem rowOf_run (h:Rel G s a w W) {c:Cell} {r:Row} {v:Value} (hr:(Prg.rowOf c).run s = some (r,s')) (hv:CRep (ctx s w W) c v):s' = s ∧ Reads w r v := by
 unfold Prg.rowOf at hr
 split at hr
 ·obtain ⟨rfl,rfl⟩ := pure_run hr
  rw [show v = .slice none 0 0 from hv]
  exact ⟨rfl,rfl,none,0,rfl,⟨Nat.le_refl _,fun _ => rfl⟩,fun i x hx => by simp at hx⟩
 ·obtain ⟨rfl,rfl⟩ := pure_run hr
  exact ⟨rfl,hv.1,ROc.move (fun _ _ => ⟨trivial,rfl⟩) _ _ _ hv.2⟩
 ·obtain ⟨r',h1,h2⟩ := getR_run hr
  obtain ⟨rfl,rfl⟩ := pure_run h2
  exact ⟨rfl,(row_reads h h1 hv).2⟩
 ·cases hr
theorem intOp_run {op:BinOp} {k:IntKind} {x y:Int} {c:Cell} (t:TypeId) (hask:intAsk op y = true) (h:intOp op k x y = some c) (X:Ctx):∃ v,(binOp op t (.int k x) (.int k y)).run P w = .ok v w ∧ CRep X c v := by
 cases op <;> simp only [intOp] at h <;> cases h
 case quo =>
  have hy:¬ y = 0 := by simpa [intAsk] using hask
  exact ⟨_,by simp [binOp,Op.intDiv,hy],rfl⟩
 case rem =>
  have hy:¬ y = 0 := by simpa [intAsk] using hask
  exact ⟨_,by simp [binOp,Op.intDiv,hy],rfl⟩
 case shr =>
  have hy:¬ y < 0 := by simpa [intAsk] using hask
  exact ⟨_,by simp [binOp,Op.shift,hy],rfl⟩
 all_goals exact ⟨_,by simp [binOp,Op.intArith,Op.intCmp,Op.intBits],rfl⟩
theorem strOp_run {op:BinOp} {x y:ByteArray} {c:Cell} (t:TypeId) (hask:strAsk op x y = true) (h:strOp op x y = some c) (X:Ctx):∃ v,(binOp op t (.string x) (.string y)).run P w = .ok v w ∧ CRep X c v := by
 cases op <;> simp only [strOp] at h <;> cases h
 case add =>
  have hy:¬ ((x.size + y.size:Nat):Int) > 9223372036854775807 := by
   have:x.size + y.size ≤ 9223372036854775807 := by simpa [strAsk] using hask
   omega
  refine ⟨.string (x ++ y),?_,rfl⟩
  have hm:IntKind.i64.max = 9223372036854775807 := by decide
  simp only [binOp,Op.stringOp,hm]
  rw [if_neg hy]
  rfl
 all_goals exact ⟨_,by simp [binOp,Op.stringOp],rfl⟩
theorem equalIn_bool (d:Nat) {t:TypeId} {x y:Bool} (ht:P.underlying t = some .bool):(Op.equalIn (d + 1) t (.bool x) (.bool y)).run P w = .ok (x == y) w := by
 simp only [Op.equalIn,Sem.run_bind,run_underlying ht,Result.andThen_ok,Sem.run_pure]
theorem equal_bool {t:TypeId} {x y:Bool} (ht:P.underlying t = some .bool):(Op.equal t (.bool x) (.bool y)).run P w = .ok (x == y) w := equalIn_bool 9999 ht
theorem equalIn_nil (d:Nat) {t e:TypeId} {A:Option Addr} {n c:Nat} (ht:P.underlying t = some (.slice e)):(Op.equalIn (d + 1) t (.slice A n c) (.slice none 0 0)).run P w = .ok A.isNone w := by
 cases A <;> simp only [Op.equalIn,Sem.run_bind,run_underlying ht,Result.andThen_ok,Sem.run_pure] <;> rfl
theorem equal_nil {t e:TypeId} {A:Option Addr} {n c:Nat} (ht:P.underlying t = some (.slice e)):(Op.equal t (.slice A n c) (.slice none 0 0)).run P w = .ok A.isNone w := equalIn_nil 9999 ht
theorem boolOp_run {op:BinOp} {x y:Bool} {c:Cell} (t:TypeId) (ht:P.underlying t = some .bool) (h:boolOp op x y = some c) (X:Ctx):∃ v,(binOp op t (.bool x) (.bool y)).run P w = .ok v w ∧ CRep X c v := by
 cases op <;> simp only [boolOp] at h <;> cases h
 all_goals exact ⟨_,by simp only [binOp,Sem.run_bind,equal_bool ht,Result.andThen_ok,Sem.run_pure],rfl⟩
theorem eqGuard_run {op:BinOp} {t:TypeId} {x y:Operand} {u v:Value} (h:∀ xs,u ≠ .agg xs) (h':u ≠ .nilIface):(eqGuard op t x y u v).run P w = .ok () w := by
 unfold eqGuard
 cases u <;> first | exact absurd rfl h' | exact absurd rfl (h _) | (split <;> simp)
theorem wp_binOp {o:Oper} {op:BinOp} {t yt:TypeId} {x y:Operand} (ho:o.op = .binOp op t x y yt) {v:Value} (h:∀ xs,a.eval x ≠ .agg xs) (h':a.eval x ≠ .nilIface)
  (hv:(binOp op t (a.eval x) (a.eval y)).run P w = .ok v w) {K:Act → World → Prop} {Q:Exit → Act → World → Prop} (hK:K (a.put o.dst v) w):o.wp P a w K Q := by
 refine wp_value (v := v) (w' := w) ?_ hK
 simp only [execOp,ho,Sem.run_bind,eqGuard_run h h',Result.andThen_ok,hv,Sem.run_pure]
theorem tt_elem (hE:E.tt = mkTI P) {t:Nat} {x:Nat×Ty×Nat} (h:(Prg.elemP E t).run s = some (x,s')):s' = s ∧ P.underlying t = some (.slice x.1) ∧ ∃ ei z,P.info? x.1 = some ei ∧ ei.size = x.2.1.size ∧ ei.bytes = x.2.2 ∧ 0 < ei.size ∧ ei.zero = some z ∧ zeroOk x.2.1 z.cells.toList = true := by
 obtain ⟨rfl,_,_,_,_,_,_,_,h1⟩ := elemP_run h
 rw [hE] at h1
 obtain ⟨el,e,bytes⟩ := x
 exact ⟨rfl,(mkTI_spec h1).elem el e bytes rfl⟩
theorem tt_ti (hE:E.tt = mkTI P) {t:Nat} {x:TI} (h:(Prg.tiP E t).run s = some (x,s')):s' = s ∧ TIOk P t x := by
 obtain ⟨rfl,h1⟩ := tiP_run h
 rw [hE] at h1
 exact ⟨rfl,mkTI_spec h1⟩
def eqVals:List Ty → List Value → List Value → Option Bool
 | [],[],[] => some true
 | .int _ :: ts,.int k a :: us,.int k' b :: vs => if k = k' then (eqVals ts us vs).map fun r => a == b&&r else none
 | .bool :: ts,.bool a :: us,.bool b :: vs => (eqVals ts us vs).map fun r => a == b&&r
 | .str :: ts,.string a :: us,.string b :: vs => (eqVals ts us vs).map fun r => a.toList == b.toList&&r
 | _,_,_ => none
theorem eqVals_of {X:Ctx}:∀ (ts:List Ty) (us vs:List Cell) (xs ys:List Value) (b:Bool),All2 (CRep X) us xs → All2 (CRep X) vs ys → eqCells ts us vs = some b → eqVals ts xs ys = some b := by
 intro ts
 induction ts with
 | nil =>
  intro us vs xs ys b hx hy h
  match us,vs,xs,ys,hx,hy with
  | [],[],[],[],_,_ => exact h
  | [],_ :: _,_,_,_,_ => cases h
  | _ :: _,_,_,_,_,_ => cases h
 | cons t ts ih =>
  intro us vs xs ys b hx hy h
  unfold eqCells at h
  split at h
  ·rename_i e; cases e
  ·rename_i e
   cases e
   match xs,ys,hx,hy with
   | x :: xs,y :: ys,hx,hy =>
    have e1:x = .int _ _ := hx.1
    have e2:y = .int _ _ := hy.1
    subst e1 e2
    split at h
    ·rename_i hk
     obtain ⟨r,h1,h2⟩ := Option.map_eq_some_iff.1 h
     simp only [eqVals,if_pos hk,ih _ _ xs ys r hx.2 hy.2 h1,Option.map_some,h2]
    ·cases h
  ·rename_i e
   cases e
   match xs,ys,hx,hy with
   | x :: xs,y :: ys,hx,hy =>
    have e1:x = .bool _ := hx.1
    have e2:y = .bool _ := hy.1
    subst e1 e2
    obtain ⟨r,h1,h2⟩ := Option.map_eq_some_iff.1 h
    simp only [eqVals,ih _ _ xs ys r hx.2 hy.2 h1,Option.map_some,h2]
  ·rename_i e
   cases e
   match xs,ys,hx,hy with
   | x :: xs,y :: ys,hx,hy =>
    have e1:x = .string _ := hx.1
    have e2:y = .string _ := hy.1
    subst e1 e2
    obtain ⟨r,h1,h2⟩ := Option.map_eq_some_iff.1 h
    simp only [eqVals,ih _ _ xs ys r hx.2 hy.2 h1,Option.map_some,h2]
  ·cases h
theorem eqVals_len:∀ (ts:List Ty) (us vs:List Value) (b:Bool),eqVals ts us vs = some b → us.length = ts.length ∧ vs.length = ts.length := by
 intro ts
 induction ts with
 | nil =>
  intro us vs b h
  match us,vs with
  | [],[] => exact ⟨rfl,rfl⟩
  | [],_ :: _ => cases h
  | _ :: _,_ => cases h
 | cons t ts ih =>
  intro us vs b h
  unfold eqVals at h
  split at h
  ·rename_i e; cases e
  ·rename_i e
   cases e
   split at h
   ·obtain ⟨r,h1,_⟩ := Option.map_eq_some_iff.1 h
    have := ih _ _ r h1
    simp [this.1,this.2]
   ·cases h
  ·rename_i e
   cases e
   obtain ⟨r,h1,_⟩ := Option.map_eq_some_iff.1 h
   have := ih _ _ r h1
   simp [this.1,this.2]
  ·rename_i e
   cases e
   obtain ⟨r,h1,_⟩ := Option.map_eq_some_iff.1 h
   have := ih _ _ r h1
   simp [this.1,this.2]
  ·cases h
theorem eqVals_append:∀ (t1 t2:List Ty) (us vs:List Value) (b:Bool),eqVals (t1 ++ t2) us vs = some b → ∃ b1 b2,eqVals t1 (us.take t1.length) (vs.take t1.length) = some b1 ∧ eqVals t2 (us.drop t1.length) (vs.drop t1.length) = some b2 ∧ b = (b1&&b2) := by
 intro t1
 induction t1 with
 | nil => intro t2 us vs b h; exact ⟨true,b,by simp [eqVals],by simpa using h,by simp⟩
 | cons t t1 ih =>
  intro t2 us vs b h
  rw [List.cons_append] at h
  unfold eqVals at h
  split at h
  ·rename_i e; cases e
  ·rename_i e
   injection e with e1 e2
   subst e1 e2
   split at h
   ·rename_i hk
    obtain ⟨r,h1,h2⟩ := Option.map_eq_some_iff.1 h
    obtain ⟨b1,b2,k1,k2,k3⟩ := ih _ _ _ _ h1
    exact ⟨_,b2,by simp only [List.length_cons,List.take_succ_cons,eqVals,if_pos hk,k1,Option.map_some]; rfl,by simpa using k2,by rw [← h2,k3,Bool.and_assoc]⟩
   ·cases h
  ·rename_i e
   injection e with e1 e2
   subst e1 e2
   obtain ⟨r,h1,h2⟩ := Option.map_eq_some_iff.1 h
   obtain ⟨b1,b2,k1,k2,k3⟩ := ih _ _ _ _ h1
   exact ⟨_,b2,by simp only [List.length_cons,List.take_succ_cons,eqVals,k1,Option.map_some]; rfl,by simpa using k2,by rw [← h2,k3,Bool.and_assoc]⟩
  ·rename_i e
   injection e with e1 e2
   subst e1 e2
   obtain ⟨r,h1,h2⟩ := Option.map_eq_some_iff.1 h
   obtain ⟨b1,b2,k1,k2,k3⟩ := ih _ _ _ _ h1
   exact ⟨_,b2,by simp only [List.length_cons,List.take_succ_cons,eqVals,k1,Option.map_some]; rfl,by simpa using k2,by rw [← h2,k3,Bool.and_assoc]⟩
  ·cases h
def Pk (P:Program) (t:Nat) (us:List Value) (x:Value):Prop := ∃ d,P.underlying t = some d ∧ if d.isRow = true then x = .agg us.toArray else us = [x]
theorem run_sizeOf' {t:TypeId} {i:TypeInfo} (h:P.info? t = some i):(sizeOf t).run P w = .ok i.size w := by
 simp only [sizeOf,typeInfo,Sem.run_bind,run_program,Result.andThen_ok,h,Sem.run_pure]
theorem run_part {f:Field} {xs:List Value} {l:List Value} {d:TypeDesc} {i:TypeInfo} (hd:P.underlying f.type = some d) (hi:P.info? f.type = some i) (hl:(xs.drop f.offset).take i.size = l) (hlen:l.length = i.size) (h1:d.isRow = false → i.size = 1) :
  ∃ x,(part f.type xs.toArray f.offset).run P w = .ok x w ∧ Pk P f.type l x := by
 unfold part
 simp only [Sem.run_bind,show (isAgg f.type).run P w = .ok d.isRow w by simp only [isAgg,Sem.run_bind,run_underlying hd,Result.andThen_ok]; cases d <;> rfl,Result.andThen_ok]
 cases hr:d.isRow with
 | true =>
  refine ⟨_,by simp only [if_true,Sem.run_bind,run_sizeOf' hi,Result.andThen_ok,Sem.run_pure]; rfl,d,hd,?_⟩
  rw [if_pos hr,← hl]
  congr 1
  simp [List.extract_toArray,List.drop_take,Nat.add_sub_cancel_left]
 | false =>
  have h1 := h1 hr
  rw [h1] at hl hlen
  have hx:∃ x,xs[f.offset]? = some x ∧ l = [x] := by
   cases hq:xs[f.offset]? with
   | none =>
    rw [List.getElem?_eq_none_iff] at hq
    rw [List.drop_eq_nil_of_le hq] at hl
    subst hl
    simp at hlen
   | some x =>
    refine ⟨x,rfl,?_⟩
    rw [← hl]
    obtain ⟨hlt,hx⟩ := List.getElem?_eq_some_iff.1 hq
    rw [List.drop_eq_getElem_cons hlt,hx]
    simp
  obtain ⟨x,hx,rfl⟩ := hx
  refine ⟨x,?_,d,hd,by rw [hr]; simp⟩
  simp [hx]
theorem equalIn_tys:∀ (n t:Nat) (ts:List Ty),eqTys P n t = some ts → ∀ (d:Nat) (w:World) (us vs:List Value) (b:Bool),eqVals ts us vs = some b → ∀ (x y:Value),Pk P t us x → Pk P t vs y → (Op.equalIn (d + n) t x y).run P w = .ok b w := by
 intro n
 induction n with
 | zero => intro t ts h; cases h
 | succ n ih =>
  intro t ts h d w us vs b hb x y hx hy
  unfold eqTys at h
  split at h
  ·rename_i k hu
   cases h
   obtain ⟨d',hd',hx⟩ := hx
   obtain ⟨d2,hd2,hy⟩ := hy
   rw [hu] at hd' hd2
   cases hd'
   cases hd2
   simp only [TypeDesc.isRow,Bool.false_eq_true,if_false] at hx hy
   subst hx hy
   unfold eqVals at hb
   split at hb
   ·rename_i e _ _; cases e
   ·rename_i e1 e2 e3
    cases e1
    cases e2
    cases e3
    split at hb
    ·rename_i hk
     subst hk
     simp only [eqVals,Option.map_some,Bool.and_true,Option.some.injEq] at hb
     rw [← hb]
     exact run_equalIn_int w (d + n) t _ _ _ _ hu
    ·cases hb
   ·rename_i e _ _; cases e
   ·rename_i e _ _; cases e
   ·cases hb
  ·rename_i hu
   cases h
   obtain ⟨d',hd',hx⟩ := hx
   obtain ⟨d2,hd2,hy⟩ := hy
   rw [hu] at hd' hd2
   cases hd'
   cases hd2
   simp only [TypeDesc.isRow,Bool.false_eq_true,if_false] at hx hy
   subst hx hy
   unfold eqVals at hb
   split at hb
   ·rename_i e _ _; cases e
   ·rename_i e _ _; cases e
   ·rename_i e1 e2 e3
    cases e1
    cases e2
    cases e3
    simp only [eqVals,Option.map_some,Bool.and_true,Option.some.injEq] at hb
    rw [← hb]
    exact run_equalIn_bool' w (d + n) t _ _ hu
   ·rename_i e _ _; cases e
   ·cases hb
  ·rename_i hu
   cases h
   obtain ⟨d',hd',hx⟩ := hx
   obtain ⟨d2,hd2,hy⟩ := hy
   rw [hu] at hd' hd2
   cases hd'
   cases hd2
   simp only [TypeDesc.isRow,Bool.false_eq_true,if_false] at hx hy
   subst hx hy
   unfold eqVals at hb
   split at hb
   ·rename_i e _ _; cases e
   ·rename_i e _ _; cases e
   ·rename_i e _ _; cases e
   ·rename_i e1 e2 e3
    cases e1
    cases e2
    cases e3
    simp only [eqVals,Option.map_some,Bool.and_true,Option.some.injEq] at hb
    rw [← hb]
    exact run_equalIn_string w (d + n) t _ _ hu
   ·cases hb
  ·rename_i fs hu
   split at h
   ·rename_i hst
    obtain ⟨d',hd',hx⟩ := hx
    obtain ⟨d2,hd2,hy⟩ := hy
    rw [hu] at hd' hd2
    cases hd'
    cases hd2
    simp only [TypeDesc.isRow,if_true] at hx hy
    subst hx hy
    have hfo:P.fieldsOf t = fs := by simp [Program.fieldsOf,hu]
    rw [show d + (n + 1) = (d + n) + 1 from rfl,run_equalIn_agg w (d + n) t _ _ (by rw [hfo]; exact hu) hst,hfo]
    have key:∀ (fl:List Field) (o:Nat) (ts:List Ty) (b:Bool),eqFs P (eqTys P n) o fl = some ts → eqVals ts (us.drop o) (vs.drop o) = some b → (Op.eqFields (d + n) us.toArray vs.toArray fl).run P w = .ok b w := by
     intro fl
     induction fl with
     | nil =>
      intro o ts b h1 h2
      cases h1
      have := eqVals_len _ _ _ _ h2
      have hb':b = true := by
       cases hq:us.drop o <;> cases hq':vs.drop o <;> simp_all [eqVals]
      subst hb'
      simp [Op.eqFields]
     | cons f fl ihf =>
      intro o ts b h1 h2
      simp only [eqFs] at h1
      split at h1
      ·rename_i hf
       obtain ⟨l,g1,g2⟩ := Option.bind_eq_some_iff.1 h1
       obtain ⟨i,g3,g4⟩ := Option.bind_eq_some_iff.1 g2
       split at g4
       ·rename_i hsz
        obtain ⟨ts2,g5,rfl⟩ := Option.map_eq_some_iff.1 g4
        obtain ⟨b1,b2,k1,k2,k3⟩ := eqVals_append _ _ _ _ _ h2
        have hl1 := eqVals_len _ _ _ _ k1
        have hname:f.name ≠ "_" := by simpa using hf.1
        obtain ⟨dd,hdd,hone⟩:∃ dd,P.underlying f.type = some dd ∧ (dd.isRow = false → l.length = 1) := by
         cases n with
         | zero => cases g1
         | succ n =>
          unfold eqTys at g1
          split at g1
          ·rename_i hq; cases g1; exact ⟨_,hq,fun _ => rfl⟩
          ·rename_i hq; cases g1; exact ⟨_,hq,fun _ => rfl⟩
          ·rename_i hq; cases g1; exact ⟨_,hq,fun _ => rfl⟩
          ·rename_i hq; exact ⟨_,hq,fun e => by cases e⟩
          ·cases g1
        obtain ⟨p,p1,p2⟩ := run_part (w := w) (xs := us) (l := (us.drop o).take l.length) hdd g3 (by rw [hf.2,hsz]) (by rw [hl1.1,hsz]) (fun e => by rw [hsz]; exact hone e)
        obtain ⟨q,q1,q2⟩ := run_part (w := w) (xs := vs) (l := (vs.drop o).take l.length) hdd g3 (by rw [hf.2,hsz]) (by rw [hl1.2,hsz]) (fun e => by rw [hsz]; exact hone e)
        have r1 := ih f.type l g1 d w _ _ b1 k1 p q p2 q2
        have r2 := ihf (o + l.length) ts2 b2 g5 (by rw [List.drop_drop,List.drop_drop] at k2; exact k2)
        unfold Op.eqFields
        rw [if_pos hname]
        simp only [Sem.run_bind,p1,q1,r1,Result.andThen_ok]
        cases b1 with
        | true => simp only [Bool.not_true,Bool.false_eq_true,if_false]; rw [r2,k3]; rfl
        | false => simp only [Bool.not_false,if_true,Sem.run_pure]; rw [k3]; rfl
       ·cases g4
      ·cases h1
    exact key fs.toList 0 ts b h (by simpa using hb)
   ·cases h
  ·cases h
theorem ok_binOp (hE:E.tt = mkTI P) {o:Oper} {op:BinOp} {t yt:TypeId} {x y:Operand} (ho:o.op = .binOp op t x y yt):OpOk P E G o := by
 intro s s' r a w W hr h K Q hK
 simp only [Prg.opP,ho] at hr
 obtain ⟨u,s1,q1,hr1⟩ := bind_run hr
 obtain ⟨rfl,hu⟩ := ev_run h q1
 obtain ⟨v,s2,q2,hr2⟩ := bind_run hr1
 obtain ⟨rfl,hv⟩ := ev_run h q2
 obtain ⟨c,s3,q3,hr3⟩ := bind_run hr2
 obtain ⟨rfl,rfl⟩ := pure_run hr3
 clear hr hr1 hr2 hr3 q1 q2
 unfold Prg.binOp' at q3
 split at q3
 ·split at q3
  ·rename_i k p k' q hk
   subst hk
   have e1 := GRep_one.1 hu
   have e2 := GRep_one.1 hv
   obtain ⟨_,s4,q4,q5⟩ := bind_run q3
   obtain ⟨k4,rfl⟩ := sure_run q4
   obtain ⟨q6,rfl⟩ := ofOpt_run q5
   obtain ⟨v',h3,h4⟩ := intOp_run (P := P) (w := w) t k4 q6 (ctx s' w W)
   refine wp_binOp ho (by rw [show a.eval x = _ from e1]; simp) (by rw [show a.eval x = _ from e1]; simp) (v := v') (by rw [show a.eval x = _ from e1,show a.eval y = _ from e2]; exact h3) (hK _ _ _ h (VRep_one.2 h4))
  ·cases q3
 ·have e1 := GRep_one.1 hu
  have e2 := GRep_one.1 hv
  obtain ⟨_,s4,q4,q5⟩ := bind_run q3
  obtain ⟨k4,rfl⟩ := sure_run q4
  obtain ⟨q6,rfl⟩ := ofOpt_run q5
  obtain ⟨v',h3,h4⟩ := strOp_run (P := P) (w := w) t k4 q6 (ctx s' w W)
  exact wp_binOp ho (by rw [show a.eval x = _ from e1]; simp) (by rw [show a.eval x = _ from e1]; simp) (v := v') (by rw [show a.eval x = _ from e1,show a.eval y = _ from e2]; exact h3) (hK _ _ _ h (VRep_one.2 h4))
 ·have e1 := GRep_one.1 hu
  have e2 := GRep_one.1 hv
  obtain ⟨ti,s4,q4,q5⟩ := bind_run q3
  obtain ⟨rfl,hti⟩ := tt_ti hE q4
  obtain ⟨_,s5,q6,q7⟩ := bind_run q5
  obtain ⟨k6,rfl⟩ := chk_run q6
  obtain ⟨q8,rfl⟩ := ofOpt_run q7
  obtain ⟨v',h3,h4⟩ := boolOp_run (P := P) (w := w) t ((hti.bas _ k6).1 rfl) q8 (ctx s' w W)
  exact wp_binOp ho (by rw [show a.eval x = _ from e1]; simp) (by rw [show a.eval x = _ from e1]; simp) (v := v') (by rw [show a.eval x = _ from e1,show a.eval y = _ from e2]; exact h3) (hK _ _ _ h (VRep_one.2 h4))
 ·rename_i us vs
  obtain ⟨xs,hx,ex,_⟩ := hu
  obtain ⟨ys,hy,ey,_⟩ := hv
  have ex:a.eval x = .agg xs.toArray := ex
  have ey:a.eval y = .agg ys.toArray := ey
  obtain ⟨ti,s4,q4,q5⟩ := bind_run q3
  obtain ⟨rfl,hti⟩ := tt_ti hE q4
  obtain ⟨ts,s5,q6,q7⟩ := bind_run q5
  obtain ⟨r6,rfl⟩ := ofOpt_run q6
  obtain ⟨b,s6,q8,q9⟩ := bind_run q7
  obtain ⟨r8,rfl⟩ := ofOpt_run q8
  obtain ⟨⟨fs,hfs⟩,hg,ht⟩ := hti.eqt ts r6
  have hr:(Op.equalIn 10000 t (.agg xs.toArray) (.agg ys.toArray)).run P w = .ok b w := equalIn_tys 8 t ts ht 9992 w xs ys b (eqVals_of ts us vs xs ys b hx hy r8) _ _ ⟨_,hfs,rfl⟩ ⟨_,hfs,rfl⟩
  have hgd:(eqGuard op t x y (.agg xs.toArray) (.agg ys.toArray)).run P w = .ok () w := run_eqGuard_agg w op t x y _ _ hg
  split at q9
  ·obtain ⟨rfl,rfl⟩ := pure_run q9
   refine wp_value (v := .bool b) (w' := w) ?_ (hK _ _ _ h (VRep_one.2 rfl))
   simp only [execOp,ho,ex,ey,Sem.run_bind,hgd,Result.andThen_ok,run_eql_struct,hr,Sem.run_pure]
  ·obtain ⟨rfl,rfl⟩ := pure_run q9
   refine wp_value (v := .bool !b) (w' := w) ?_ (hK _ _ _ h (VRep_one.2 rfl))
   simp only [execOp,ho,ex,ey,Sem.run_bind,hgd,Result.andThen_ok,run_neq_struct,hr,Sem.run_pure]
  ·cases q9
 ·rename_i c0 el0 e0
  have e1 := GRep_one.1 hu
  have e2 := GRep_one.1 hv
  obtain ⟨ro,s4,q4,q5⟩ := bind_run q3
  obtain ⟨rfl,hro⟩ := rowOf_run h q4 e1
  obtain ⟨te,s5,q6,q7⟩ := bind_run q5
  obtain ⟨rfl,hte,_⟩ := tt_elem hE q6
  obtain ⟨A,cap,hA,_,hget⟩ := hro.slice
  obtain ⟨_,s6,q8,q9⟩ := bind_run q7
  have hnil:s6 = s5 ∧ A.isNone = (isNil ro.z).1 := by
   have hz := hro.1
   rw [hA] at hz
   cases hz':ro.z
   ·rw [hz'] at hz q8
    have hz:Value.slice A ro.l.length cap = .slice none 0 0 := hz
    injection hz with hz
    subst hz
    exact ⟨(pure_run q8).2,rfl⟩
   ·rw [hz'] at hz q8
    obtain ⟨b,n,c,hz⟩:∃ b n c,Value.slice A ro.l.length cap = .slice (some b) n c := hz
    injection hz with hz
    subst hz
    exact ⟨(pure_run q8).2,rfl⟩
   ·rw [hz'] at q8
    obtain ⟨k8,rfl⟩ := sure_run q8
    have k8:0 < ro.l.length := by simpa using k8
    obtain ⟨g,off,c,rfl,_⟩ := hget 0 _ (List.getElem?_eq_getElem k8)
    exact ⟨rfl,rfl⟩
   ·rw [hz'] at hz q8
    rcases hz with ⟨hz,hb⟩ | ⟨⟨b,n,c,hz⟩,hb⟩
    ·injection hz with hz
     subst hz hb
     exact ⟨(pure_run q8).2,rfl⟩
    ·injection hz with hz
     subst hz hb
     exact ⟨(pure_run q8).2,rfl⟩
  obtain ⟨rfl,hnil⟩ := hnil
  have hx:a.eval x = .slice A ro.l.length cap := hA
  have hy:a.eval y = .slice none 0 0 := e2
  split at q9
  ·obtain ⟨rfl,rfl⟩ := pure_run q9
   refine wp_binOp ho (by rw [hx]; simp) (by rw [hx]; simp) (v := .bool A.isNone) ?_ (hK _ _ _ h (VRep_one.2 (by rw [hnil]; rfl)))
   rw [hx,hy]
   simp only [binOp,Sem.run_bind,equal_nil hte,Result.andThen_ok,Sem.run_pure]
  ·obtain ⟨rfl,rfl⟩ := pure_run q9
   refine wp_binOp ho (by rw [hx]; simp) (by rw [hx]; simp) (v := .bool !A.isNone) ?_ (hK _ _ _ h (VRep_one.2 (by rw [hnil]; rfl)))
   rw [hx,hy]
   simp only [binOp,Sem.run_bind,equal_nil hte,Result.andThen_ok,Sem.run_pure]
  ·cases q9
 ·cases q3
end
section
variable {G:Beg} {s s':St} {a:Act} {w w':World} {W W':Wit} {P:Program} {E:Env}
theorem ok_unOp {o:Oper} {op:UnOp} {t:TypeId} {x:Operand} (ho:o.op = .unOp op t x):OpOk P E G o := by
 intro s s' r a w W hr h K Q hK
 simp only [Prg.opP,ho] at hr
 obtain ⟨u,s1,q1,q2⟩ := bind_run hr
 obtain ⟨rfl,hu⟩ := ev_run h q1
 split at q2
 ·obtain ⟨rfl,rfl⟩ := pure_run q2
  have e1 := GRep_one.1 hu
  exact wp_value (by simp only [execOp,ho,show a.eval x = _ from e1,Op.unary,Sem.run_bind,Sem.run_pure,Result.andThen_ok]) (hK _ _ _ h (VRep_one.2 rfl))
 ·obtain ⟨rfl,rfl⟩ := pure_run q2
  have e1 := GRep_one.1 hu
  exact wp_value (by simp only [execOp,ho,show a.eval x = _ from e1,Op.unary,Op.intArith,Sem.run_bind,Sem.run_pure,Result.andThen_ok]) (hK _ _ _ h (VRep_one.2 rfl))
 ·cases q2
theorem ok_pick {o:Oper} {c x y:Operand} (ho:o.op = .pick c x y):OpOk P E G o := by
 intro s s' r a w W hr h K Q hK
 simp only [Prg.opP,ho] at hr
 obtain ⟨u,s1,q1,q2⟩ := bind_run hr
 obtain ⟨rfl,hu⟩ := ev_run h q1
 obtain ⟨v1,s2,q3,q4⟩ := bind_run q2
 obtain ⟨rfl,hv1⟩ := ev_run h q3
 obtain ⟨v2,s3,q5,q6⟩ := bind_run q4
 obtain ⟨rfl,hv2⟩ := ev_run h q5
 unfold Prg.pickP at q6
 split at q6
 ·rename_i b p q
  obtain ⟨rfl,rfl⟩ := pure_run q6
  have e1:a.eval c = .bool b := GRep_one.1 hu
  have e2:a.eval x = .bool p := GRep_one.1 hv1
  have e3:a.eval y = .bool q := GRep_one.1 hv2
  refine wp_value (v := .bool (if b then p else q)) (w' := w) ?_ (hK _ _ _ h (VRep_one.2 (by cases b <;> rfl)))
  simp only [execOp,ho,e1,e2,e3,asBool,Sem.run_bind,Sem.run_pure,Result.andThen_ok]
  cases b <;> rfl
 ·rename_i b _
  have e1:a.eval c = .bool b := GRep_one.1 hu
  cases b
  ·obtain ⟨rfl,rfl⟩ := pure_run (x := v2) (s := s3) (by simpa [Prg.run] using q6)
   refine wp_value (v := a.eval y) (w' := w) ?_ (hK _ _ _ h hv2)
   simp only [execOp,ho,e1,asBool,Sem.run_bind,Sem.run_pure,Result.andThen_ok]
   rfl
  ·obtain ⟨rfl,rfl⟩ := pure_run (x := v1) (s := s3) (by simpa [Prg.run] using q6)
   refine wp_value (v := a.eval x) (w' := w) ?_ (hK _ _ _ h hv1)
   simp only [execOp,ho,e1,asBool,Sem.run_bind,Sem.run_pure,Result.andThen_ok]
   rfl
 ·cases q6
theorem ok_extract {o:Oper} {x:Operand} {i:Nat} (ho:o.op = .extract x i):OpOk P E G o := by
 intro s s' r a w W hr h K Q hK
 simp only [Prg.opP,ho] at hr
 obtain ⟨u,s1,q1,q2⟩ := bind_run hr
 obtain ⟨rfl,hu⟩ := ev_run h q1
 split at q2
 ·rename_i vs
  obtain ⟨us,e1,e2⟩ := hu
  split at q2
  ·rename_i g cs hi
   obtain ⟨rfl,rfl⟩ := pure_run q2
   obtain ⟨v,hv,hg⟩ := All2.get e2 hi
   refine wp_value (v := v) (w' := w) ?_ (hK _ _ _ h hg)
   simp only [execOp,ho,e1,Instr.extract,Sem.run_bind,Sem.run_pure,Result.andThen_ok]
   simp [hv]
  ·cases q2
 ·cases q2
theorem ok_field (hE:E.tt = mkTI P) {o:Oper} {t:TypeId} {x:Operand} {f:Nat} (ho:o.op = .field t x f):OpOk P E G o := by
 intro s s' r a w W hr h K Q hK
 simp only [Prg.opP,ho] at hr
 obtain ⟨u,s1,q1,q2⟩ := bind_run hr
 obtain ⟨rfl,hu⟩ := ev_run h q1
 obtain ⟨ti,s2,q3,q4⟩ := bind_run q2
 obtain ⟨rfl,hti⟩ := tt_ti hE q3
 obtain ⟨p,s3,q5,q6⟩ := bind_run q4
 obtain ⟨hp,rfl⟩ := ofOpt_run q5
 obtain ⟨g,s4,q7,q8⟩ := bind_run q6
 obtain ⟨hg,rfl⟩ := ofOpt_run q7
 obtain ⟨off,sz⟩ := p
 split at q8
 ·rename_i cs g
  obtain ⟨_,s5,q9,q10⟩ := bind_run q8
  obtain ⟨hc,rfl⟩ := chk_run q9
  obtain ⟨l,s6,q11,q12⟩ := bind_run q10
  obtain ⟨rfl,rfl⟩ := pure_run q12
  obtain ⟨_,fs,fd,i,e1,e2,e3,e4,e5,e6⟩ := hti.flds f off sz hp
  obtain ⟨fs',fd',f1,f2,f3⟩ := hti.fagg f g hg
  rw [e1] at f1
  cases f1
  rw [e2] at f2
  cases f2
  obtain ⟨d,hd,hrow,_⟩ := aggOf_spec f3
  unfold Prg.sub at q11
  split at q11
  ·rename_i hle
   obtain ⟨rfl,rfl⟩ := pure_run q11
   obtain ⟨vs,h1,h2,_⟩ := hu
   have h2:a.eval x = .agg vs.toArray := h2
   have hl := h1.length
   subst e3 e5
   obtain ⟨y,hy,d',hd',hy2⟩ := run_part (w := w) (f := fd) (xs := vs) hd e4 rfl (by rw [List.length_take,List.length_drop]; omega) (fun e => by
    rcases hc with hc | hc
    ·rw [← hrow,e] at hc; cases hc
    ·exact hc)
   rw [hd] at hd'
   cases hd'
   have hA := (h1.drop fd.offset).take i.size
   refine wp_value (v := y) (w' := w) ?_ (hK _ _ _ h ⟨(vs.drop fd.offset).take i.size,hA,?_,?_⟩)
   ·simp only [execOp,ho,h2,Instr.field,Sem.run_bind,run_underlying e1,Result.andThen_ok,e2,asAgg,Sem.run_pure,hy]
   ·rw [hrow] at hy2
    cases g
    ·simp only [Bool.false_eq_true,if_false] at hy2 ⊢
     rw [hy2]
     rfl
    ·simp only [if_true] at hy2 ⊢
     exact hy2
   ·intro e
    subst e
    rcases hc with hc | hc
    ·cases hc
    ·rw [List.length_take,List.length_drop,hc]
     omega
  ·cases q11
 ·cases q8
theorem ok_nilCheck {o:Oper} {x:Operand} (ho:o.op = .nilCheck x):OpOk P E G o := by
 intro s s' r a w W hr h K Q hK
 simp only [Prg.opP,ho] at hr
 obtain ⟨u,s1,q1,q2⟩ := bind_run hr
 obtain ⟨rfl,hu⟩ := ev_run h q1
 obtain ⟨c,s2,q3,q4⟩ := bind_run q2
 obtain ⟨rfl,rfl⟩ := asCell_run q3
 have hc := VRep_one.1 hu
 have fin:∀ ad,a.eval x = .pointer (some ad) → r = one c → s' = s2 → o.wp P a w K Q := by
  intro ad hx e1 e2
  subst e1
  subst e2
  refine wp_value (v := a.eval x) (w' := w) ?_ (hK _ _ _ h hu)
  simp only [execOp,ho,hx,Sem.run_pure]
 split at q4
 ·rename_i b ver off
  obtain ⟨fz,cs,g1,g2⟩ := getB_run q4
  obtain ⟨e1,e2⟩ := pure_run g2
  exact fin _ (hc.2.2 (by simp [ctx,bvOf,g1])) e1 e2
 ·rename_i i c ver k sz off
  obtain ⟨ro,g1,g2⟩ := getR_run q4
  obtain ⟨e1,e2⟩ := pure_run g2
  obtain ⟨g,n,cap,_,e3⟩ := hc.2.2 (by simp [ctx,rvOf,g1])
  exact fin _ e3 e1 e2
 ·rename_i e y off
  obtain ⟨e1,e2⟩ := pure_run q4
  obtain ⟨g,o',c',e3,_⟩ := hc
  exact fin _ e3 e1 e2
 ·cases q4
theorem ok_fieldAddr (hE:E.tt = mkTI P) {o:Oper} {t:TypeId} {x:Operand} {f:Nat} (ho:o.op = .fieldAddr t x f):OpOk P E G o := by
 intro s s' r a w W hr h K Q hK
 simp only [Prg.opP,ho] at hr
 obtain ⟨u,s1,q1,q2⟩ := bind_run hr
 obtain ⟨rfl,hu⟩ := evC_run h q1
 obtain ⟨ti,s2,q3,q4⟩ := bind_run q2
 obtain ⟨rfl,hti⟩ := tt_ti hE q3
 obtain ⟨p,s3,q5,q6⟩ := bind_run q4
 obtain ⟨hp,rfl⟩ := ofOpt_run q5
 obtain ⟨c,s4,q7,q8⟩ := bind_run q6
 obtain ⟨rfl,rfl⟩ := pure_run q8
 obtain ⟨off,sz⟩ := p
 obtain ⟨_,fs,fd,i,e1,e2,e3,e4,e5,e6⟩ := hti.flds f off sz hp
 have fin:∀ ad,a.eval x = .pointer (some ad) → s' = s3 → CRep (ctx s3 w W) c (.pointer (some (ad.add off))) → o.wp P a w K Q := by
  intro ad hx hs hc
  subst hs
  refine wp_value (v := .pointer (some (ad.add off))) (w' := w) ?_ (hK _ _ _ h (VRep_one.2 hc))
  have hi:¬ i.size = 0 := by rw [e5]; exact e6
  simp only [execOp,ho,hx,Instr.fieldAt,Sem.run_bind,run_underlying e1,Result.andThen_ok,e2,Instr.sureAddr,Sem.run_pure,fieldPlace,sizeOf,typeInfo,run_program,e4,hi,if_false,e3]
 unfold Prg.fieldP at q7
 split at q7
 ·rename_i b ver o'
  obtain ⟨fz,cs,g1,g2⟩ := getB_run q7
  obtain ⟨rfl,hs⟩ := pure_run g2
  have hx := hu.2.2 (by simp [ctx,bvOf,g1])
  exact fin _ hx hs ⟨hu.1,rfl,fun _ => by rw [Addr.add_add]⟩
 ·rename_i i c ver k sz' o'
  obtain ⟨ro,g1,g2⟩ := getR_run q7
  obtain ⟨rfl,hs⟩ := pure_run g2
  obtain ⟨g,n,cap,e7,hx⟩ := hu.2.2 (by simp [ctx,rvOf,g1])
  exact fin _ hx hs ⟨hu.1,rfl,fun _ => ⟨g,n,cap,e7,by rw [Addr.add_mid,Nat.add_assoc]⟩⟩
 ·rename_i e y o'
  obtain ⟨rfl,hs⟩ := pure_run q7
  obtain ⟨g,ob,c',hx,e7⟩ := hu
  exact fin _ hx hs ⟨g,ob,c',by rw [Addr.add_mid,Nat.add_assoc],e7⟩
 ·cases q7
end
section
variable {G:Beg} {s s':St} {a:Act} {w w':World} {W W':Wit} {P:Program} {E:Env}
theorem cellsOf_rep {X:Ctx}:∀ (e:Ty) (x:e.den) (c:List Value),ROc X.w X.S e x c → All2 (CRep X) (cellsOf e x) c ∧ ∀ v ∈ c,v.oneCell' = true
 | .int k,n,c,h => by rw [show c = _ from h]; exact ⟨⟨rfl,trivial⟩,by simp [Value.oneCell']⟩
 | .bool,n,c,h => by rw [show c = _ from h]; exact ⟨⟨rfl,trivial⟩,by simp [Value.oneCell']⟩
 | .str,n,c,h => by rw [show c = _ from h]; exact ⟨⟨rfl,trivial⟩,by simp [Value.oneCell']⟩
 | .sl el e,l,c,h => by
  obtain ⟨A,cap,rfl,h2,h3⟩ := h
  exact ⟨⟨⟨trivial,A,cap,rfl,h2,h3⟩,trivial⟩,by simp [Value.oneCell']⟩
 | .pair a b,x,c,h => by
  obtain ⟨c1,c2,rfl,_,h3,h4⟩ := h
  obtain ⟨r1,o1⟩ := cellsOf_rep a _ _ h3
  obtain ⟨r2,o2⟩ := cellsOf_rep b _ _ h4
  refine ⟨r1.append r2,fun v hv => ?_⟩
  rcases List.mem_append.1 hv with hv | hv
  ·exact o1 v hv
  ·exact o2 v hv
theorem OWc.flat {w:World} {S φ:Nat → Prop}:∀ (e:Ty) (x:e.den) (c:List Value),e.flat = true → OWc w e x φ c → ROc w S e x c := by
 intro e
 induction e generalizing φ with
 | int _ => intro _ _ _ h; exact h
 | bool => intro _ _ _ h; exact h
 | str => intro _ _ _ h; exact h
 | sl _ _ _ => intro _ _ hf _; cases hf
 | pair a b iha ihb =>
  intro x c hf h
  simp only [Ty.flat,Bool.and_eq_true] at hf
  obtain ⟨c1,c2,ψ1,ψ2,h1,h2,h3,h4,h5,h6,h7⟩ := h
  exact ⟨c1,c2,h1,h2,iha _ _ hf.1 h6,ihb _ _ hf.2 h7⟩
theorem ROc.flat {w:World} {S φ:Nat → Prop}:∀ (e:Ty) (x:e.den) (c:List Value),e.flat = true → ROc w S e x c → OWc w e x φ c := by
 intro e
 induction e generalizing φ with
 | int _ => intro _ _ _ h; exact h
 | bool => intro _ _ _ h; exact h
 | str => intro _ _ _ h; exact h
 | sl _ _ _ => intro _ _ hf _; cases hf
 | pair a b iha ihb =>
  intro x c hf h
  simp only [Ty.flat,Bool.and_eq_true] at hf
  obtain ⟨c1,c2,h1,h2,h6,h7⟩ := h
  exact ⟨c1,c2,fun _ => False,fun _ => False,h1,h2,fun _ h => h.elim,fun _ h => h.elim,fun _ h => h.elim,iha _ _ hf.1 h6,ihb _ _ hf.2 h7⟩
theorem at_get {e:Ty} {l:List e.den} {i:Nat} (h:i < l.length):l[i]? = some (at_ e l i) := by
 simp [at_,List.getD,List.getElem?_eq_getElem h]
theorem box_vals (h:Rel G s a w W) {b ver:Nat} {fz:Bool} {cs:List Cell} (hb:s (.B b) = .b ver fz cs) (hne:cs ≠ []) :
  ∃ g o vs,W.ad b = ⟨g,o,none⟩ ∧ vs.length = cs.length ∧ All2 (CRep (ctx s w W)) cs vs ∧ (∀ v ∈ vs,v.oneCell' = true) ∧ w.rangeAt g o vs := by
 obtain ⟨h1,_,h3⟩ := h.B b ver fz cs hb hne
 generalize had:W.ad b = ad at *
 obtain ⟨g,o,sp⟩ := ad
 dsimp only at h1
 subst h1
 have key:∀ (l:List Cell) (k:Nat),(∀ (j:Nat) (c:Cell),l[j]? = some c → ∃ v,w.cell? ((⟨g,o,none⟩:Addr).add (k + j)) = some v ∧ v.oneCell' = true ∧ CRep (ctx s w W) c v) →
   ∃ vs:List Value,vs.length = l.length ∧ All2 (CRep (ctx s w W)) l vs ∧ (∀ v ∈ vs,v.oneCell' = true) ∧ ∀ j v,vs[j]? = some v → w.cell? ⟨g,o + (k + j),none⟩ = some v := by
  intro l
  induction l with
  | nil => intro k _; exact ⟨[],rfl,trivial,by simp,by simp⟩
  | cons c l ih =>
   intro k hk
   obtain ⟨v,e1,e2,e3⟩ := hk 0 c rfl
   obtain ⟨vs,l1,l2,l3,l4⟩ := ih (k + 1) (fun j c' hj => by
    have := hk (j + 1) c' (by simpa using hj)
    rwa [show k + (j + 1) = k + 1 + j by omega] at this)
   refine ⟨v :: vs,by simp [l1],⟨e3,l2⟩,fun u hu => ?_,fun j u hu => ?_⟩
   ·rcases List.mem_cons.1 hu with rfl | hu
    ·exact e2
    ·exact l3 u hu
   ·cases j with
    | zero =>
     simp at hu
     subst hu
     rw [Addr.add_mid] at e1
     exact e1
    | succ j =>
     have := l4 j u (by simpa using hu)
     rwa [show k + 1 + j = k + (j + 1) by omega] at this
 obtain ⟨vs,l1,l2,l3,l4⟩ := key cs 0 (fun j c hj => by rw [Nat.zero_add]; exact h3 j c hj)
 exact ⟨g,o,vs,rfl,l1,l2,l3,fun j v hj => by have := l4 j v hj; rwa [Nat.zero_add] at this⟩
theorem run_isAgg {t:TypeId} {d:TypeDesc} (h:P.underlying t = some d):(isAgg t).run P w = .ok d.isRow w := by
 simp only [isAgg,Sem.run_bind,run_underlying h,Result.andThen_ok]
 cases d <;> rfl
theorem run_loadVar {t:TypeId} {ti:TI} (hti:TIOk P t ti) {g o:Nat} {vs:List Value} (hl:vs.length = ti.size) (hh:Has w g o vs) :
  (loadVar t ⟨g,o,none⟩).run P w = .ok (if ti.agg then .agg vs.toArray else vs.headD undef) w := by
 obtain ⟨d,hd,hrow⟩ := hti.desc
 obtain ⟨i,hi,hsz⟩ := hti.info
 cases hg:ti.agg
 ·rw [hg] at hrow
  have h1 := hti.one hg
  rw [h1] at hl
  obtain ⟨v,rfl⟩ := List.length_eq_one_iff.1 hl
  simp only [loadVar,Sem.run_bind,run_isAgg hd,hrow,Result.andThen_ok]
  have := hh 0 v rfl
  rw [Nat.add_zero] at this
  simp [load,Sem.run,this]
 ·rw [hg] at hrow
  simp only [if_true]
  exact run_loadVar_mid w g o t vs d hh hd hrow (by rw [hi]; simp [hsz,hl])
theorem sub_run {off n:Nat} {cs r:List Cell} (h:(Prg.sub off n cs).run s = some (r,s')):s' = s ∧ off + n ≤ cs.length ∧ r = (cs.drop off).take n := by
 unfold Prg.sub at h
 split at h
 ·obtain ⟨rfl,rfl⟩ := pure_run h; exact ⟨rfl,by assumption,rfl⟩
 ·cases h
theorem load_rep {X:Ctx} {t:TypeId} {ti:TI} (hti:TIOk P t ti) {cs:List Cell} {vs:List Value} {off:Nat} (h:All2 (CRep X) cs vs) (hl:off + ti.size ≤ cs.length) :
  ((vs.drop off).take ti.size).length = ti.size ∧ VRep X (.val ti.agg ((cs.drop off).take ti.size)) (if ti.agg then .agg ((vs.drop off).take ti.size).toArray else ((vs.drop off).take ti.size).headD undef) := by
 have hlen := h.length
 refine ⟨by simp; omega,(vs.drop off).take ti.size,(h.drop off).take ti.size,rfl,fun hg => ?_⟩
 rw [← hti.one hg]
 simp
 omega
theorem wp_load {o:Oper} {t:TypeId} {x:Operand} (ho:o.op = .load t x) {ti:TI} (hti:TIOk P t ti) {g off:Nat} {vs:List Value} (hx:a.eval x = .pointer (some ⟨g,off,none⟩)) (hl:vs.length = ti.size) (hh:Has w g off vs)
  {K:Act → World → Prop} {Q:Exit → Act → World → Prop} (hK:K (a.put o.dst (if ti.agg then .agg vs.toArray else vs.headD undef)) w):o.wp P a w K Q := by
 refine wp_value ?_ hK
 simp only [execOp,ho,hx,Instr.loadAt,Instr.sureAddr,Sem.run_bind,Sem.run_pure,Result.andThen_ok,run_loadVar hti hl hh]
theorem rangeAt_part {g o off n:Nat} {vs:List Value} (h:w.rangeAt g o vs):Has w g (o + off) ((vs.drop off).take n) := by
 intro j v hj
 rw [List.getElem?_take] at hj
 split at hj
 ·rw [List.getElem?_drop] at hj
  have := h _ _ hj
  rwa [← Nat.add_assoc] at this
 ·cases hj
theorem ctx_row (s:St) (w:World) (W:Wit) {i c ver:Nat} {r0 r:Row} (h:s (.R i c) = .r ver (some r0)):bvOf (s.set (.R i c) (.r ver (some r))) = bvOf s ∧ rvOf (s.set (.R i c) (.r ver (some r))) = rvOf s := by
 constructor
 ·funext b; simp [bvOf,St.set]
 ·funext a b
  unfold rvOf St.set
  by_cases e:(Pl.R a b) = .R i c
  ·injection e with e1 e2; subst e1; subst e2; simp [h]
  ·simp [e]
theorem rel_shallow (h:Rel G s a w W) {i c ver:Nat} {r:Row} (hr:s (.R i c) = .r ver (some r)) (hf:r.fz = false) (hd:r.d = true) :
  ∃ W',Rel G (s.set (.R i c) (.r ver (some { r with d := false }))) a w W' ∧ W'.ad = W.ad ∧ W'.sv = W.sv ∧ Ext (ctx s w W) (ctx (s.set (.R i c) (.r ver (some { r with d := false }))) w W') ∧
   (∃ vals,ownR w 0 r.el r.e.size (W.sv i c) r.l.length vals ∧ ∀ (k:Nat) (x:r.e.den),r.l[k]? = some x → ROc w (ctx (s.set (.R i c) (.r ver (some { r with d := false }))) w W').S r.e x ((vals.drop (k * r.e.size)).take r.e.size)) := by
 obtain ⟨hb1,hb2⟩ := ctx_row s w W (r := { r with d := false }) hr
 have hR := h.R i c ver r hr
 obtain ⟨hz,hR⟩ := hR
 rw [if_neg (by simp [hf]),hd] at hR
 obtain ⟨vals,h1,h2,ψ,h3,h4,h5⟩ := hR
 let W':Wit := ⟨fun g => if W.ω g = some (.R i c) ∧ (W.sv i c).ownBlock ≠ some g then none else W.ω g,W.ad,W.sv⟩
 have hS:∀ g,(ctx s w W).S g → (ctx (s.set (.R i c) (.r ver (some { r with d := false }))) w W').S g := by
  rintro g ⟨g1,g2⟩
  refine ⟨g1,?_⟩
  show (if _ then _ else _) = _
  split
  ·rfl
  ·exact g2
 have hX:Ext (ctx s w W) (ctx (s.set (.R i c) (.r ver (some { r with d := false }))) w W') :=
  ⟨fun g hg => ⟨hS g hg,rfl⟩,fun b => ⟨by simp [ctx,hb1],fun _ => rfl⟩,fun i c => ⟨by simp [ctx,hb2],fun _ => rfl⟩⟩
 have hel:∀ (k:Nat) (x:r.e.den),r.l[k]? = some x → ROc w (ctx (s.set (.R i c) (.r ver (some { r with d := false }))) w W').S r.e x ((vals.drop (k * r.e.size)).take r.e.size) := by
  intro k x hk
  refine OWc.ro (fun g hg => ?_) _ _ _ (h5 k x hk)
  obtain ⟨g1,g2⟩ := h3 k g hg
  refine ⟨h.lt g (by rw [g1]; simp),?_⟩
  show (if _ then _ else _) = _
  rw [if_pos ⟨g1,g2⟩]
 refine ⟨W',?_,rfl,rfl,hX,vals,h1,hel⟩
 refine h.change (fun l => l = .R i c) (fun l hl => St.set_ne _ _ hl) (fun _ => by simp) (by simp) (fun g l hg hl => ⟨?_,rfl⟩) (fun _ _ => rfl) (fun _ _ _ => rfl) hX (fun b hb => by cases hb) ?_ (fun g hg => ?_) rfl rfl rfl (Nat.le_refl _) (fun g _ hg => ⟨?_,rfl⟩)
 ·show (if _ then _ else _) = _
  rw [if_neg (by rw [hg]; rintro ⟨e,_⟩; exact hl (Option.some.inj e))]
  exact hg
 ·intro i' c' e ver' r' hr'
  injection e with e1 e2
  subst e1
  subst e2
  rw [St.set_same] at hr'
  injection hr' with _ hr'
  injection hr' with hr'
  subst hr'
  refine ⟨hz,?_⟩
  rw [if_neg (by simp [hf])]
  refine ⟨vals,h1,fun g hg => ?_,?_⟩
  ·show (if _ then _ else _) = _
   rw [if_neg (by rintro ⟨_,e⟩; exact e hg)]
   exact h2 g hg
  ·rw [if_neg (by simp)]
   exact hel
 ·apply h.lt g
  intro e
  apply hg
  show (if _ then _ else _) = _
  split
  ·rfl
  ·exact e
 ·show (if _ then _ else _) = _
  split
  ·rfl
  ·exact hg
theorem plain_move {X Y:Ctx}:∀ {cs:List Cell} {vs:List Value},cs.all Cell.plainC = true → All2 (CRep X) cs vs → All2 (CRep Y) cs vs
 | [],[],_,_ => trivial
 | [],_ :: _,_,h => h.elim
 | _ :: _,[],_,h => h.elim
 | c :: cs,v :: vs,h,hh => by
  rw [List.all_cons,Bool.and_eq_true] at h
  refine ⟨?_,plain_move h.2 hh.2⟩
  have h0 := h.1
  have h1 := hh.1
  cases c with
  | int k n => exact h1
  | bool b => exact h1
  | str s => exact h1
  | _ => cases h0
theorem ok_load (hE:E.tt = mkTI P) {o:Oper} {t:TypeId} {x:Operand} (ho:o.op = .load t x):OpOk P E G o := by
 intro s s' r a w W hr h K Q hK
 simp only [Prg.opP,ho] at hr
 obtain ⟨u,s1,q1,q2⟩ := bind_run hr
 obtain ⟨rfl,hu⟩ := evC_run h q1
 obtain ⟨ti,s2,q3,q4⟩ := bind_run q2
 obtain ⟨rfl,hti⟩ := tt_ti hE q3
 have hpos:0 < ti.size := hti.pos
 unfold Prg.loadP at q4
 split at q4
 ·rename_i b ver off
  obtain ⟨fz,cs,g1,g2⟩ := getB_run q4
  obtain ⟨sc,s3,q5,q6⟩ := bind_run g2
  obtain ⟨rfl,hl,rfl⟩ := sub_run q5
  obtain ⟨rfl,rfl⟩ := pure_run q6
  obtain ⟨g,ob,vs,had,hvl,hv,_,hrange⟩ := box_vals h g1 (by rintro rfl; simp at hl; omega)
  obtain ⟨l1,l2⟩ := load_rep hti hv hl
  have hx := hu.2.2 (by simp [ctx,bvOf,g1])
  rw [show (ctx s' w W).ad b = _ from had,Addr.add_mid] at hx
  exact wp_load ho hti hx l1 (rangeAt_part hrange) (hK _ _ _ h l2)
 ·rename_i e y off
  obtain ⟨sc,s3,q5,q6⟩ := bind_run q4
  obtain ⟨rfl,hl,rfl⟩ := sub_run q5
  obtain ⟨rfl,rfl⟩ := pure_run q6
  obtain ⟨g,ob,c,hx,_,_,e3,e4⟩ := hu
  obtain ⟨hv,_⟩ := cellsOf_rep e y c e4
  obtain ⟨l1,l2⟩ := load_rep hti hv hl
  exact wp_load ho hti hx l1 (rangeAt_part (o := ob) e3) (hK _ _ _ h l2)
 ·rename_i i c ver k sz off
  obtain ⟨ro,g1,g2⟩ := getR_run q4
  obtain ⟨_,s3,q5,q6⟩ := bind_run g2
  obtain ⟨hsz,rfl⟩ := chk_run q5
  obtain ⟨_,s4,q7,q8⟩ := bind_run q6
  obtain ⟨hk,rfl⟩ := sure_run q7
  have hk:k < ro.l.length := by simpa using hk
  obtain ⟨sc,s5,q9,q10⟩ := bind_run q8
  obtain ⟨rfl,hl,rfl⟩ := sub_run q9
  obtain ⟨g,n,cap,hsv,hx⟩ := hu.2.2 (by simp [ctx,rvOf,g1])
  have hsv:W.sv i c = .slice (some ⟨g,0,none⟩) n cap := hsv
  -- the element's cells,once they are known to be read alone
  have fin:∀ (s0:St) (W0:Wit) (cv:List Value),Rel G s0 a w W0 → ROc w (ctx s0 w W0).S ro.e (at_ ro.e ro.l k) cv → Has w g (k * ro.e.size) cv → s' = s0 → r = .val ti.agg (((cellsOf ro.e (at_ ro.e ro.l k)).drop off).take ti.size) → o.wp P a w K Q := by
   intro s0 W0 cv h0 hc hh e1 e2
   subst e1
   subst e2
   obtain ⟨hv,_⟩ := cellsOf_rep (X := ctx s' w W0) _ _ cv hc
   obtain ⟨l1,l2⟩ := load_rep hti hv hl
   rw [← hsz] at hx
   exact wp_load ho hti hx l1 (rangeAt_part (o := k * ro.e.size) hh) (hK _ _ _ h0 l2)
  have hRR := h.R i c ver ro g1
  split at q10
  ·rename_i hcond
   simp only [Bool.and_eq_true,Bool.not_eq_true'] at hcond
   obtain ⟨rfl,rfl⟩:r = _ ∧ s' = _ := by
    simp only [Prg.run,Option.some.injEq,Prod.mk.injEq] at q10
    exact ⟨q10.1.symm,q10.2.symm⟩
   obtain ⟨W',h',hw1,hw2,_,vals,o1,o2⟩ := rel_shallow h g1 hcond.1.2 hcond.1.1.1
   obtain ⟨A,cap',e1,_,e3⟩ := ownR.has o1
   obtain ⟨g',rfl,_,hh⟩ := e3 (by omega)
   rw [e1] at hsv
   injection hsv with hsv
   injection hsv with hsv
   injection hsv with hsv
   subst hsv
   exact fin _ W' ((vals.drop (k * ro.e.size)).take ro.e.size) h' (o2 k _ (at_get hk)) (Has.part hh) rfl rfl
  ·rename_i hcond
   obtain ⟨e1,e2⟩ := pure_run q10
   obtain ⟨_,hRR⟩ := hRR
   split at hRR
   ·obtain ⟨A,cap',e3,e4,e5⟩ := hRR
    obtain ⟨g',off',c',e6,_,e7,e8,e9⟩ := e5 k _ (at_get hk)
    simp only [List.cons.injEq,and_true] at e3
    rw [hsv,e6] at e3
    injection e3 with e3
    injection e3 with e3
    injection e3 with e3 e3'
    subst e3
    subst e3'
    exact fin _ W c' h e9 (by rw [Nat.zero_add] at e8; exact e8) e2 e1
   ·rename_i hfz
    obtain ⟨vals,o1,o2,o3⟩ := hRR
    obtain ⟨A,cap',f1,_,f3⟩ := ownR.has o1
    obtain ⟨g',rfl,_,hh⟩ := f3 (by omega)
    rw [f1] at hsv
    injection hsv with hsv
    injection hsv with hsv
    injection hsv with hsv
    subst hsv
    split at o3
    ·rename_i hdd
     obtain ⟨ψ,_,_,o4⟩ := o3
     by_cases hfl:ro.e.flat = true
     ·exact fin _ W ((vals.drop (k * ro.e.size)).take ro.e.size) h (OWc.flat _ _ _ hfl (o4 k _ (at_get hk))) (Has.part hh) e2 e1
     ·have hpl:(((cellsOf ro.e (at_ ro.e ro.l k)).drop off).take ti.size).all Cell.plainC = true := by
       simp only [hdd,Bool.true_and,Bool.and_eq_true,Bool.not_eq_true'] at hcond
       cases hp:(((cellsOf ro.e (at_ ro.e ro.l k)).drop off).take ti.size).all Cell.plainC with
       | true => rfl
       | false => exact absurd ⟨⟨by simpa using hfl,by simpa using hfz⟩,hp⟩ hcond
      subst e1 e2
      obtain ⟨hv,_⟩ := cellsOf_rep (X := { ctx s' w W with S := fun _ => True }) _ _ _ (OWc.ro (S := fun _ => True) (fun _ _ => trivial) _ _ _ (o4 k _ (at_get hk)))
      obtain ⟨l1,vs',l2,l3,l4⟩ := load_rep hti hv hl
      rw [← hsz] at hx
      exact wp_load ho hti hx l1 (rangeAt_part (o := k * ro.e.size) (Has.part hh)) (hK _ _ _ h ⟨vs',plain_move hpl l2,l3,l4⟩)
    ·exact fin _ W ((vals.drop (k * ro.e.size)).take ro.e.size) h (o3 k _ (at_get hk)) (Has.part hh) e2 e1
 ·rename_i f e y
  obtain ⟨_,s3,q5,q6⟩ := bind_run q4
  obtain ⟨⟨hsz,hagg⟩,rfl⟩ := chk_run q5
  obtain ⟨rfl,rfl⟩ := pure_run q6
  obtain ⟨g,o1,p,h1,h2,h3,h4⟩ := hu
  refine wp_load ho hti h1 (vs := [.func (.func f) #[] #[p]]) (by rw [hsz]; rfl) h3 (hK _ _ _ h ?_)
  rw [hagg,if_neg (by simp)]
  exact VRep_one.2 ⟨[p],rfl,h4,trivial⟩
 ·cases q4
end
section
variable {G:Beg} {s s':St} {a:Act} {w w':World} {W W':Wit} {P:Program} {E:Env}
theorem run_sizeOf {t:TypeId} {i:TypeInfo} (h:P.info? t = some i):(sizeOf t).run P w = .ok i.size w := by
 simp only [sizeOf,typeInfo,Sem.run_bind,run_program,Result.andThen_ok,h,Sem.run_pure]
theorem run_indexAt' {t el:TypeId} {i:TypeInfo} (ht:P.underlying t = some (.slice el)) (hi:P.info? el = some i) {g off n cap:Nat} {k:IntKind} {j:Int} (h:0 ≤ j ∧ j < (n:Int)) :
  (Instr.indexAt t (.slice (some ⟨g,off,none⟩) n cap) (.int k j)).run P w = .ok (.pointer (some ⟨g,off + j.toNat * i.size,none⟩)) w := by
 simp only [Instr.indexAt,asIntOf,Sem.run_bind,Sem.run_pure,run_underlying ht,Result.andThen_ok]
 rw [if_pos h]
 simp only [Sem.run_bind,run_sizeOf hi,Result.andThen_ok,Sem.run_pure,Addr.add_mid]
theorem ok_indexAddr (hE:E.tt = mkTI P) {o:Oper} {t:TypeId} {x y:Operand} (ho:o.op = .indexAddr t x y):OpOk P E G o := by
 intro s s' r a w W hr h K Q hK
 simp only [Prg.opP,ho] at hr
 obtain ⟨u,s1,q1,q2⟩ := bind_run hr
 obtain ⟨rfl,hu⟩ := evC_run h q1
 obtain ⟨j,s2,q3,q4⟩ := bind_run q2
 obtain ⟨rfl,kk,hj⟩ := asIntP_run h q3
 obtain ⟨te,s3,q5,q6⟩ := bind_run q4
 obtain ⟨rfl,hte,ei,z,hei,hes,_⟩ := tt_elem hE q5
 obtain ⟨c,s4,q7,q8⟩ := bind_run q6
 obtain ⟨rfl,rfl⟩ := pure_run q8
 have fin:∀ g off n cap,a.eval x = .slice (some ⟨g,off,none⟩) n cap → 0 ≤ j ∧ j < (n:Int) → s' = s3 → CRep (ctx s3 w W) c (.pointer (some ⟨g,off + j.toNat * ei.size,none⟩)) → o.wp P a w K Q := by
  intro g off n cap hx hlt e hc
  subst e
  refine wp_value ?_ (hK _ _ _ h (VRep_one.2 hc))
  simp only [execOp,ho,hx,hj,Sem.run_bind,run_indexAt' hte hei hlt,Result.andThen_ok,Sem.run_pure]
 unfold Prg.idx at q7
 split at q7
 ·rename_i z' el' e' l
  split at q7
  ·rename_i he
   obtain ⟨he1,he2⟩ := he
   subst he1
   subst he2
   obtain ⟨_,s5,q9,q10⟩ := bind_run q7
   obtain ⟨hlt,rfl⟩ := sure_run q9
   obtain ⟨rfl,rfl⟩ := pure_run q10
   have hlt:0 ≤ j ∧ j < (l.length:Int) := by simpa using hlt
   obtain ⟨_,A,cap,hx,_,hget⟩ := hu
   simp only [List.cons.injEq,and_true] at hx
   have hj':j.toNat < l.length := by omega
   obtain ⟨g,off,cv,rfl,hS,hl,hh,hro⟩ := hget j.toNat _ (at_get hj')
   refine fin g off l.length cap hx hlt rfl ⟨g,off + j.toNat * ei.size,cv,rfl,hS,hl,?_,hro⟩
   rw [hes]
   exact hh
  ·cases q7
 ·rename_i i c ver
  obtain ⟨ro,g1,g2⟩ := getR_run q7
  split at g2
  ·rename_i he
   obtain ⟨he1,he2⟩ := he
   obtain ⟨_,s5,q9,q10⟩ := bind_run g2
   obtain ⟨hlt,rfl⟩ := sure_run q9
   obtain ⟨rfl,rfl⟩ := pure_run q10
   have hlt:0 ≤ j ∧ j < (ro.l.length:Int) := by simpa using hlt
   have hj':j.toNat < ro.l.length := by omega
   have hx:a.eval x = W.sv i c := hu.2.2 (by simp [ctx,rvOf,g1])
   have hRR := h.R i c ver ro g1
   obtain ⟨_,hRR⟩ := hRR
   split at hRR
   ·rename_i hfz
    rw [if_pos hfz] at *
    obtain ⟨A,cap,e1,_,hget⟩ := hRR
    simp only [List.cons.injEq,and_true] at e1
    obtain ⟨g,off,cv,rfl,hS,hl,hh,hro⟩ := hget j.toNat _ (at_get hj')
    refine fin g off ro.l.length cap (hx.trans e1) hlt rfl ⟨g,off + j.toNat * ei.size,cv,rfl,hS,hl,?_,hro⟩
    rw [hes,← he2]
    exact hh
   ·rename_i hfz
    rw [if_neg hfz] at *
    obtain ⟨vals,o1,_⟩ := hRR
    obtain ⟨A,cap,e1,_,e3⟩ := ownR.has o1
    obtain ⟨g,rfl,_,_⟩ := e3 (by omega)
    refine fin g 0 ro.l.length cap (hx.trans e1) hlt rfl ⟨by simp [ctx,rvOf,g1],rfl,fun _ => ⟨g,ro.l.length,cap,e1,?_⟩⟩
    rw [hes,← he2]
    simp
  ·cases g2
 ·cases q7
theorem ok_index (hE:E.tt = mkTI P) {o:Oper} {t:TypeId} {x y:Operand} (ho:o.op = .index t x y):OpOk P E G o := by
 intro s s' r a w W hr h K Q hK
 simp only [Prg.opP,ho] at hr
 obtain ⟨u,s1,q1,q2⟩ := bind_run hr
 obtain ⟨rfl,hu⟩ := evC_run h q1
 obtain ⟨j,s2,q3,q4⟩ := bind_run q2
 obtain ⟨rfl,kk,hj⟩ := asIntP_run h q3
 obtain ⟨ti,s3,p1,p2⟩ := bind_run q4
 obtain ⟨rfl,hti⟩ := tt_ti hE p1
 obtain ⟨_,s4,p3,p4⟩ := bind_run p2
 obtain ⟨hb,rfl⟩ := chk_run p3
 have ht:P.underlying t = some .string := (hti.bas _ hb).2.1 rfl
 split at p4
 ·rename_i str
  obtain ⟨_,s5,q5,q6⟩ := bind_run p4
  obtain ⟨hlt,rfl⟩ := sure_run q5
  obtain ⟨rfl,rfl⟩ := pure_run q6
  have hlt:0 ≤ j ∧ j < (str.size:Int) := by simpa using hlt
  have hx:a.eval x = .string str := hu
  have hj':j.toNat < str.size := by omega
  refine wp_value (v := .int .u8 (byteAt str j.toNat)) (w' := w) ?_ (hK _ _ _ h (VRep_one.2 rfl))
  have hget:str[j.toNat]? = some (str[j.toNat]'hj') := by simp [hj']
  simp only [execOp,ho,hx,hj,Instr.index,asIntOf,Sem.run_bind,Sem.run_pure,run_underlying ht,Result.andThen_ok,if_pos hlt.1,hget]
  have hb:byteAt str j.toNat = ((str[j.toNat]'hj').toNat:Int) := by
   unfold byteAt
   have:str.data[j.toNat]? = some (str[j.toNat]'hj') := by
    rw [Array.getElem?_eq_getElem (by simpa using hj')]
    rfl
   rw [this]
   rfl
  rw [hb]
 ·cases p4
theorem cells1_run {X:Ctx} (rs:List RV):∀ (vs:List Value) (cs:List Cell) (s s':St),(Prg.cells1 rs).run s = some (cs,s') → All2 (VRep X) rs vs → s' = s ∧ All2 (CRep X) cs vs := by
 induction rs with
 | nil =>
  intro vs cs s s' hr h
  obtain ⟨rfl,rfl⟩ := pure_run hr
  cases vs with
  | nil => exact ⟨rfl,trivial⟩
  | cons _ _ => exact h.elim
 | cons r rs ih =>
  intro vs cs s s' hr h
  cases vs with
  | nil => exact h.elim
  | cons v vs =>
   unfold Prg.cells1 at hr
   split at hr
   ·rename_i heq; cases heq
   ·rename_i c r' heq
    injection heq with e1 e2
    subst e1
    subst e2
    obtain ⟨sc,s1,q1,q2⟩ := bind_run hr
    obtain ⟨rfl,h2⟩ := ih _ _ _ _ q1 h.2
    obtain ⟨rfl,rfl⟩ := pure_run q2
    exact ⟨rfl,GRep_one.1 h.1,h2⟩
   ·cases hr
theorem splice_rep {X:Ctx} {cs new:List Cell} {vs us:List Value} {off:Nat} (h:All2 (CRep X) cs vs) (hn:All2 (CRep X) new us):All2 (CRep X) (splice off cs new) (vs.take off ++ us ++ vs.drop (off + us.length)) := by
 unfold splice
 rw [hn.length]
 exact ((h.take off).append hn).append (h.drop _)
theorem GRep.cells {X:Ctx} {g:Bool} {cs:List Cell} {v:Value} (h:GRep X g cs v) (hd:cs.all Cell.defd = true):All2 (CRep X) cs v.cells.toList ∧ ∀ u ∈ v.cells.toList,u.oneCell' = true := by
 have h1:∀ (cs:List Cell) (vs:List Value),All2 (CRep X) cs vs → cs.all Cell.defd = true → ∀ u ∈ vs,u.oneCell' = true := by
  intro cs
  induction cs with
  | nil => intro vs h _ u hu; cases vs with
   | nil => cases hu
   | cons _ _ => exact h.elim
  | cons c cs ih => intro vs h hd u hu; cases vs with
   | nil => exact h.elim
   | cons v vs =>
    simp only [List.all_cons,Bool.and_eq_true] at hd
    rcases List.mem_cons.1 hu with rfl | hu
    ·exact CRep.one _ _ h.1 hd.1
    ·exact ih vs h.2 hd.2 u hu
 obtain ⟨vs,h2,h3,h4⟩ := h
 cases g with
 | true => simp only [if_true] at h3; subst h3; exact ⟨h2,h1 _ _ h2 hd⟩
 | false =>
  have hl := h4 rfl
  match cs,vs,h2,hl with
  | [c],[u],h2,_ =>
   simp at h3
   subst h3
   have hone := h1 _ _ h2 hd v (by simp)
   have:v.cells.toList = [v] := by cases v <;> first | rfl | cases hone
   rw [this]
   exact ⟨h2,h1 _ _ h2 hd⟩
end
section
variable {G:Beg} {s s':St} {a:Act} {w w':World} {W W':Wit} {P:Program} {E:Env}
theorem fill_step (place:Nat → Option (Nat×Nat)) (cells:Array Value) (i:Nat) (v:Value) (rest:List (Nat×Value)) (off size:Nat) (hp:place i = some (off,size)) (hs:v.cells.size = size) (hl:off + size ≤ cells.size) :
  Instr.fill place cells ((i,v) :: rest) = Instr.fill place (cells.toList.take off ++ v.cells.toList ++ cells.toList.drop (off + v.cells.toList.length)).toArray rest := by
 have hq:¬ ((decide (v.cells.size ≠ size) || decide (off + v.cells.size > cells.size)) = true) := by simp [hs]; omega
 simp only [Instr.fill,hp]
 rw [if_neg hq]
 congr 1
 obtain ⟨h1,h2⟩ := Great.foldl_set off v.cells.toList 0 cells
 apply Array.ext_getElem?
 intro k
 have e:v.cells.zipIdx.foldl (fun cs x => cs.setIfInBounds (off + x.2) x.1) cells = (v.cells.toList.zipIdx 0).foldl (fun cs (x:Value×Nat) => cs.setIfInBounds (off + x.2) x.1) cells := by
  rw [← Array.foldl_toList,Array.toList_zipIdx]
 rw [show v.cells.zipIdx.foldl (fun cs (x:Value×Nat) => match x with | (c,j) => cs.setIfInBounds (off + j) c) cells = _ from e,h2 k]
 have hl2:v.cells.toList.length = v.cells.size := Array.length_toList
 simp only [List.getElem?_toArray,Nat.add_zero,hl2]
 by_cases h3:k < off
 ·rw [if_neg (by omega),List.append_assoc,List.getElem?_append_left (by simp; omega),List.getElem?_take,if_pos h3,Array.getElem?_toList]
 ·by_cases h4:k < off + v.cells.size
  ·rw [if_pos ⟨by omega,h4,by omega⟩,List.getElem?_append_left (by simp; omega),List.getElem?_append_right (by simp; omega)]
   congr 1
   simp
   omega
  ·rw [if_neg (by omega),List.getElem?_append_right (by simp; omega),List.getElem?_drop]
   simp only [List.length_append,List.length_take,hl2,Array.length_toList]
   rw [show off + v.cells.size + (k - (min off cells.size + v.cells.size)) = k by omega,Array.getElem?_toList]
theorem VRep.cells {X:Ctx} {g:Bool} {cs:List Cell} {v:Value} (h:VRep X (.val g cs) v) (hd:cs.all Cell.defd = true):All2 (CRep X) cs v.cells.toList ∧ ∀ u ∈ v.cells.toList,u.oneCell' = true := GRep.cells h hd
theorem buildP_run {X:Ctx} {ti:TI} (place:Nat → Option (Nat×Nat)) (hplace:∀ (f off sz:Nat),ti.flds[f]? = some (off,sz) → place f = some (off,sz)) (fs:List Nat):∀ (rs:List RV) (vs:List Value) (cs out:List Cell) (cells:Array Value) (s s':St),(Prg.buildP ti fs rs cs).run s = some (out,s') →
  All2 (VRep X) rs vs → All2 (CRep X) cs cells.toList → s' = s ∧ ∃ r,Instr.fill place cells (fs.zip vs) = some r ∧ All2 (CRep X) out r.toList ∧ (fs.length = vs.length) := by
 induction fs with
 | nil =>
  intro rs vs cs out cells s s' hr hv hc
  unfold Prg.buildP at hr
  split at hr
  ·rename_i heq; cases heq
  ·obtain ⟨rfl,rfl⟩ := pure_run hr
   cases vs with
   | nil => exact ⟨rfl,cells,rfl,hc,rfl⟩
   | cons _ _ => exact hv.elim
  ·cases hr
 | cons f fs ih =>
  intro rs vs cs out cells s s' hr hv hc
  unfold Prg.buildP at hr
  split at hr
  ·rename_i f' fs' g new rs' heq
   injection heq with e1 e2
   subst e1
   subst e2
   cases vs with
   | nil => exact hv.elim
   | cons v vs =>
    split at hr
    ·rename_i off sz hf
     split at hr
     ·rename_i hcond
      obtain ⟨h1,h2,h3⟩ := hcond
      obtain ⟨h4,h5⟩ := VRep.cells hv.1 h3
      have hsz:v.cells.size = sz := by rw [← Array.length_toList,← h4.length,h1]
      have hlen := hc.length
      obtain ⟨e3,r,e4,e5,e6⟩ := ih rs' vs _ out (cells.toList.take off ++ v.cells.toList ++ cells.toList.drop (off + v.cells.toList.length)).toArray s s' hr hv.2 (by simpa using splice_rep (off := off) hc h4)
      refine ⟨e3,r,?_,e5,by simp [e6]⟩
      rw [List.zip_cons_cons,fill_step place cells f v _ off sz (hplace _ _ _ hf) hsz (by rw [← Array.length_toList,← hlen]; exact h2)]
      exact e4
     ·cases hr
    ·cases hr
  ·rename_i heq; cases heq
  ·cases hr
theorem ok_build (hE:E.tt = mkTI P) {o:Oper} {t:TypeId} {parts:Array (Nat×Operand)} (ho:o.op = .build t parts):OpOk P E G o := by
 intro s s' r a w W hr h K Q hK
 simp only [Prg.opP,ho] at hr
 obtain ⟨rs,s1,q1,q2⟩ := bind_run hr
 obtain ⟨rfl,hrs⟩ := evs_run h _ _ _ _ q1
 obtain ⟨ti,s2,q3,q4⟩ := bind_run q2
 obtain ⟨rfl,hti⟩ := tt_ti hE q3
 obtain ⟨_,s3,q5,q6⟩ := bind_run q4
 obtain ⟨hagg,rfl⟩ := chk_run q5
 obtain ⟨cs,s4,q7,q8⟩ := bind_run q6
 obtain ⟨rfl,rfl⟩ := pure_run q8
 obtain ⟨d,hd,hrow⟩ := hti.desc
 obtain ⟨fs,hfs⟩ := hti.strct hagg
 obtain ⟨i,z,hi,hz,hzs,hzr,_⟩ := hti.zero
 obtain ⟨rfl,cells,e1,e2,_⟩ := buildP_run (X := ctx s3 w W) (fun i => (ti.flds.toArray)[i]?) (fun f off sz hf => by simpa using hf) _ rs _ _ _ z.cells _ _ q7 hrs (hzr _)
 refine wp_value (v := .agg cells) (w' := w) ?_ (hK _ _ _ h ⟨cells.toList,e2,by simp,fun e => by cases e⟩)
 have hb:P.built t (parts.map fun (i,x) => (i,a.eval x)).toList = some cells := by
  unfold Program.built
  simp only [hi,hfs,hz,hti.places fs hfs]
  rw [← e1]
  congr 1
  simp only [Array.toList_map]
  induction parts.toList with
  | nil => rfl
  | cons p l ih => simp [ih]
 simp only [execOp,ho,Sem.run_bind,run_build w t _ cells hb,Result.andThen_ok,Sem.run_pure]
theorem call_args {o:Oper} {b:Builtin} {args:Array Operand} {ats:Array Nat} (ho:o.op = .call ⟨.builtin b,args,ats⟩) {v:Value}
  (hv:((do pure (Next.value (← (match b with | .len => Builtin.len_ ats o.type (args.map a.eval) | .min => Builtin.min_ ats o.type (args.map a.eval) | .max => Builtin.max_ ats o.type (args.map a.eval) | .append => Builtin.append_ ats o.type (args.map a.eval) | _ => stuck "")))):Sem Next).run P w = .ok (.value v) w')
  (hb:b = .len ∨ b = .min ∨ b = .max ∨ b = .append):(execOp a.eval o).run P w = .ok (.value v) w' := by
 rcases hb with rfl | rfl | rfl | rfl <;> simpa only [execOp,ho,resolve,Sem.run_bind,Sem.run_pure,Result.andThen_ok,invoke,builtin] using hv
theorem ok_builtin (hE:E.tt = mkTI P) {o:Oper} {b:Builtin} {args:Array Operand} {ats:Array Nat} (ho:o.op = .call ⟨.builtin b,args,ats⟩) (hap:b ≠ .append):OpOk P E G o := by
 intro s s' r a w W hr h K Q hK
 simp only [Prg.opP,ho] at hr
 obtain ⟨rs,s1,q1,q2⟩ := bind_run hr
 obtain ⟨rfl,hrs⟩ := evs_run h _ _ _ _ q1
 have hargs:args.map a.eval = (args.toList.map a.eval).toArray := by rw [← Array.toList_map]
 generalize args.toList.map a.eval = vs at hrs hargs
 unfold Prg.builtinP at q2
 split at q2
 ·rename_i t x heq
  obtain ⟨v,rfl⟩:∃ v,vs = [v] := List.length_eq_one_iff.1 hrs.length.symm
  obtain rfl:ats = #[t] := by rw [← Array.toList_inj,heq]
  have hx := hrs.1
  unfold Prg.lenP at q2
  split at q2
  ·rename_i str
   obtain ⟨ti,s2,q3,q4⟩ := bind_run q2
   obtain ⟨rfl,hti⟩ := tt_ti hE q3
   obtain ⟨_,s3,q5,q6⟩ := bind_run q4
   obtain ⟨hb,rfl⟩ := chk_run q5
   obtain ⟨rfl,rfl⟩ := pure_run q6
   have e1:v = .string str := GRep_one.1 hx
   have ht := (hti.bas _ hb).2.1 rfl
   refine wp_value (v := .int .i64 str.size) (w' := w) (call_args ho ?_ (.inl rfl)) (hK _ _ _ h (VRep_one.2 rfl))
   rw [hargs,e1]
   simp [Builtin.len_,run_underlying ht,goInt]
  ·rename_i c _
   obtain ⟨te,s2,q3,q4⟩ := bind_run q2
   obtain ⟨rfl,hte,_⟩ := tt_elem hE q3
   obtain ⟨ro,s3,q5,q6⟩ := bind_run q4
   obtain ⟨rfl,hro⟩ := rowOf_run h q5 (GRep_one.1 hx)
   obtain ⟨rfl,rfl⟩ := pure_run q6
   obtain ⟨A,cap,e1,_⟩ := hro.slice
   refine wp_value (v := .int .i64 ro.l.length) (w' := w) (call_args ho ?_ (.inl rfl)) (hK _ _ _ h (VRep_one.2 rfl))
   rw [hargs,e1]
   simp [Builtin.len_,run_underlying hte,goInt]
  ·cases q2
 ·rename_i x y
  match vs,hrs with
  | [u,v],hrs =>
   unfold Prg.minP at q2
   split at q2
   ·split at q2
    ·rename_i hk
     subst hk
     obtain ⟨rfl,rfl⟩ := pure_run q2
     have e1 := GRep_one.1 hrs.1
     have e2 := GRep_one.1 hrs.2.1
     refine wp_value (w' := w) (call_args ho ?_ (.inr (.inl rfl))) (hK _ _ _ h (VRep_one.2 rfl))
     rw [hargs,show u = _ from e1,show v = _ from e2]
     simp [Builtin.min_,Builtin.min2]
    ·cases q2
   ·cases q2
 ·rename_i x y
  match vs,hrs with
  | [u,v],hrs =>
   unfold Prg.maxP at q2
   split at q2
   ·split at q2
    ·rename_i hk
     subst hk
     obtain ⟨rfl,rfl⟩ := pure_run q2
     have e1 := GRep_one.1 hrs.1
     have e2 := GRep_one.1 hrs.2.1
     refine wp_value (w' := w) (call_args ho ?_ (.inr (.inr (.inl rfl)))) (hK _ _ _ h (VRep_one.2 rfl))
     rw [hargs,show u = _ from e1,show v = _ from e2]
     simp [Builtin.max_,Builtin.max2]
    ·cases q2
   ·cases q2
 ·exact absurd rfl hap
 ·cases q2
theorem ok_makeFunc {o:Oper} {f:Nat} {first caps:Array Operand} (ho:o.op = .makeFunc (.func f) first caps):OpOk P E G o := by
 intro s s' r a w W hr h K Q hK
 simp only [Prg.opP,ho] at hr
 obtain ⟨_,s0,p1,p2⟩ := bind_run hr
 obtain ⟨hfi,rfl⟩ := chk_run p1
 obtain rfl:first = #[] := by simpa using hfi
 obtain ⟨rs,s1,q1,q2⟩ := bind_run p2
 obtain ⟨rfl,hrs⟩ := evs_run h _ _ _ _ q1
 obtain ⟨cs,s2,q3,q4⟩ := bind_run q2
 obtain ⟨rfl,hcs⟩ := cells1_run _ _ _ _ _ q3 hrs
 obtain ⟨_,s3,q5,q6⟩ := bind_run q4
 obtain ⟨hnf,rfl⟩ := chk_run q5
 obtain ⟨rfl,rfl⟩ := pure_run q6
 refine wp_value (v := .func (.func f) #[] (caps.map a.eval)) (w' := w) ?_ (hK _ _ _ h (VRep_one.2 ⟨caps.toList.map a.eval,?_,?_⟩))
 ·simp [execOp,ho,Instr.makeFunc]
 ·congr 1
  rw [← Array.toList_map]
 ·clear hrs q1 q3 hr q2 q4 hK q5 q6 p2
  generalize caps.toList.map a.eval = vs at hcs
  induction cs generalizing vs with
  | nil => cases vs with
   | nil => trivial
   | cons _ _ => exact hcs.elim
  | cons c cs ih => cases vs with
   | nil => exact hcs.elim
   | cons v vs =>
    simp only [List.all_cons,Bool.and_eq_true] at hnf
    refine ⟨?_,ih hnf.2 vs hcs.2⟩
    have := hcs.1
    cases c with
    | fn _ _ => cases hnf.1
    | _ => exact this
theorem castL_some' {e e':Ty} {l:List e.den} {l':List e'.den} (h:castL e e' l = some l'):∃ he:e = e',l' = he ▸ l := by
 unfold castL at h
 split at h
 ·rename_i he; cases h; exact ⟨he,rfl⟩
 ·cases h
theorem ok_convert (hE:E.tt = mkTI P) {o:Oper} {src dst:TypeId} {x:Operand} (ho:o.op = .convert src dst x):OpOk P E G o := by
 intro s s' r a w W hr h K Q hK
 simp only [Prg.opP,ho] at hr
 obtain ⟨u,s1,q1,q2⟩ := bind_run hr
 obtain ⟨rfl,hu⟩ := ev_run h q1
 obtain ⟨ti,s2,q3,q4⟩ := bind_run q2
 obtain ⟨rfl,hti⟩ := tt_ti hE q3
 obtain ⟨si,s3,q5,q6⟩ := bind_run q4
 obtain ⟨rfl,hsi⟩ := tt_ti hE q5
 obtain ⟨sd,hsd,_⟩ := hsi.desc
 unfold Prg.convP at q6
 split at q6
 ·rename_i k n
  split at q6
  ·rename_i k' hb
   obtain ⟨rfl,rfl⟩ := pure_run q6
   have e1:a.eval x = .int k n := GRep_one.1 hu
   have ht := (hti.bas _ hb).2.2 k' rfl
   refine wp_value (v := .int k' (k'.wrap n)) (w' := w) ?_ (hK _ _ _ h (VRep_one.2 rfl))
   simp [execOp,ho,convert,e1,run_underlying hsd,run_underlying ht,Conv.intToInt]
  ·cases q6
 ·rename_i c _
  have hc:CRep (ctx s3 w W) c (a.eval x) := GRep_one.1 hu
  split at q6
  ·rename_i hb
   have ht := (hti.bas _ hb).2.1 rfl
   obtain ⟨te,s4,p1,p2⟩ := bind_run q6
   obtain ⟨rfl,hte,ei,z,hei,_⟩ := tt_elem hE p1
   obtain ⟨_,s5,p3,p4⟩ := bind_run p2
   obtain ⟨hek,rfl⟩ := chk_run p3
   obtain ⟨eti,s6,p5,p6⟩ := bind_run p4
   obtain ⟨rfl,heti⟩ := tt_ti hE p5
   obtain ⟨_,s7,p7,p8⟩ := bind_run p6
   obtain ⟨heb,rfl⟩ := chk_run p7
   have hte8 := (heti.bas _ heb).2.2 .u8 rfl
   obtain ⟨ro,s8,p9,p10⟩ := bind_run p8
   obtain ⟨rfl,hro⟩ := rowOf_run h p9 hc
   obtain ⟨l,s9,p11,p12⟩ := bind_run p10
   obtain ⟨hl,rfl⟩ := ofOpt_run p11
   obtain ⟨rfl,rfl⟩ := pure_run p12
   obtain ⟨A,cap,hA,_,hget⟩ := hro.slice
   obtain ⟨he8,rfl⟩ := castL_some' hl
   obtain ⟨fz,z,d,el,e,l⟩ := ro
   dsimp only at he8 hA hget ⊢
   subst he8
   have hrun:(execOp a.eval o).run P w = .ok (.value (.string ⟨(l.map fun (n:Int) => UInt8.ofNat n.toNat).toArray⟩)) w := by
    have e0:(execOp a.eval o).run P w = (do let v ← convert src dst (a.eval x); pure (Next.value v):Sem Next).run P w := by simp only [execOp,ho]
    have e1:(Conv.bytesToString (.slice A l.length cap)).run P w = .ok (.string ⟨(l.map fun (n:Int) => UInt8.ofNat n.toNat).toArray⟩) w := by
     cases l with
     | nil =>
      cases A with
      | none => rfl
      | some ad =>
       have := run_bytesToString w ad 0 cap [] (by rfl) (P := P)
       exact this
     | cons n0 l =>
      obtain ⟨g,off,c,hA',_,_,_⟩ := hget 0 n0 rfl
      subst hA'
      have hl:(loadCells ⟨g,off,none⟩ (n0 :: l).length).run P w = .ok ((n0 :: l).map (Value.int .u8)).toArray w := by
       have := run_loadCells_list (P := P) (w := w) ⟨g,off,none⟩ ((n0 :: l).map (Value.int .u8)) (fun j v hj => by
        rw [List.getElem?_map] at hj
        obtain ⟨n,hn,rfl⟩ := Option.map_eq_some_iff.1 hj
        obtain ⟨g',off',c',h1,h2,h3,h4⟩ := hget j n hn
        injection h1 with h1
        injection h1 with h1 h5
        subst h1 h5
        have h4:c' = [.int .u8 n] := h4
        subst h4
        have := h3 0 _ rfl
        simp only [Ty.size,Nat.mul_one,Nat.add_zero] at this
        rw [Addr.add_mid]
        exact this)
       simpa using this
      rw [run_bytesToString w ⟨g,off,none⟩ (n0 :: l).length cap (n0 :: l) hl]
      have key:∀ (l:List Int) (b:ByteArray),l.foldl (fun r n => r.push (UInt8.ofNat n.toNat)) b = ⟨b.data ++ (l.map fun (n:Int) => UInt8.ofNat n.toNat).toArray⟩ := by
       intro l
       induction l with
       | nil => intro b; simp
       | cons n l ih => intro b; rw [List.foldl_cons,ih]; simp [ByteArray.push]
      have fin:(n0 :: l).foldl (fun r (n:Int) => r.push (UInt8.ofNat n.toNat)) ByteArray.empty = ⟨((n0 :: l).map fun (n:Int) => UInt8.ofNat n.toNat).toArray⟩ := by
       rw [key]
       have e9:∀ x:Array UInt8,(ByteArray.empty.data ++ x) = x := by intro x; show (#[]:Array UInt8) ++ x = x; simp
       rw [e9]
      exact congrArg (fun b => Result.ok (Value.string b) w) fin
    rw [e0,hA,Sem.run_bind,run_convert_bytes_string w src dst te.1 A l.length cap hte hte8 ht,e1]
    rfl
   exact wp_value hrun (hK _ _ _ h (VRep_one.2 rfl))
  ·cases q6
 ·cases q6
end
section
variable {G:Beg} {s s':St} {a:Act} {w w':World} {W W':Wit} {P:Program} {E:Env}
theorem bvOf_setB (s:St) (d ver:Nat) (fz:Bool) (cs:List Cell):bvOf (s.set (.B d) (.b ver fz cs)) = fun b => if b = d then ver else bvOf s b := by
 funext b
 unfold bvOf St.set
 by_cases e:b = d
 ·subst e; simp
 ·simp [e]
theorem rvOf_setB (s:St) (d:Nat) (v:LV):rvOf (s.set (.B d) v) = rvOf s := by
 funext i c; simp [rvOf,St.set]
theorem bvOf_setR (s:St) (i c:Nat) (v:LV):bvOf (s.set (.R i c) v) = bvOf s := by
 funext b; simp [bvOf,St.set]
theorem rvOf_setR (s:St) (i c ver:Nat) (r:Option Row):rvOf (s.set (.R i c) (.r ver r)) = fun x y => if x = i ∧ y = c then ver else rvOf s x y := by
 funext x y
 unfold rvOf St.set
 by_cases e:x = i ∧ y = c
 ·obtain ⟨rfl,rfl⟩ := e; simp
 ·rw [if_neg e,if_neg (by intro h; injection h with h1 h2; exact e ⟨h1,h2⟩)]
theorem rel_newB (h:Rel G s a w W) {d ver:Nat} {fz0:Bool} {cs0 cs:List Cell} (hd:s (.B d) = .b ver fz0 cs0) {vs:Array Value} {el:TypeId} (hv:All2 (CRep (ctx s w W)) cs vs.toList) (h1:∀ v ∈ vs.toList,v.oneCell' = true) :
  ∃ W',Rel G (s.set (.B d) (.b (ver + 1) false cs)) a (w.alloc (.cells vs el)) W' ∧ CRep (ctx (s.set (.B d) (.b (ver + 1) false cs)) (w.alloc (.cells vs el)) W') (.ptr d (ver + 1) 0) (.pointer (some ⟨w.heap.size,0,none⟩)) := by
 have hbv:bvOf s d = ver := by simp [bvOf,hd]
 let W':Wit := ⟨fun g => if g = w.heap.size then some (.B d) else if W.ω g = some (.B d) then none else W.ω g,fun b => if b = d then ⟨w.heap.size,0,none⟩ else W.ad b,W.sv⟩
 have hold:∀ g,g < w.heap.size → (w.alloc (.cells vs el)).heap[g]? = w.heap[g]? := fun g hg => heap_alloc_old w _ g hg
 have hnew:(w.alloc (.cells vs el)).heap[w.heap.size]? = some (.cells vs el (0,0)) := heap_alloc_new w _
 have hX:Ext (ctx s w W) (ctx (s.set (.B d) (.b (ver + 1) false cs)) (w.alloc (.cells vs el)) W') := by
  refine ⟨?_,fun b => ?_,fun i c => ?_⟩
  ·rintro g ⟨g1,g2⟩
   refine ⟨⟨by simp; omega,?_⟩,hold g g1⟩
   show (if _ then _ else _) = _
   rw [if_neg (Nat.ne_of_lt g1)]
   split
   ·rfl
   ·exact g2
  ·simp only [ctx,bvOf_setB]
   by_cases e:b = d
   ·subst e
    rw [if_pos rfl,hbv]
    exact ⟨by omega,fun e => by omega⟩
   ·rw [if_neg e]
    exact ⟨Nat.le_refl _,fun _ => by show (if _ then _ else _) = _; rw [if_neg e]⟩
  ·simp only [ctx,rvOf_setB]
   exact ⟨Nat.le_refl _,fun _ => rfl⟩
 refine ⟨W',?_,?_⟩
 ·refine h.change (fun l => l = .B d) (fun l hl => St.set_ne _ _ hl) (fun _ => by simp) (by simp) (fun g l hg hl => ?_) (fun b hb => ?_) (fun _ _ _ => rfl) hX ?_ (fun _ _ e => by cases e) (fun g hg => ?_) rfl rfl rfl (by simp) (fun g hg hn => ⟨?_,hold g hg⟩)
  ·have hg' := h.lt g (by rw [hg]; simp)
   refine ⟨?_,hold g hg'⟩
   show (if _ then _ else _) = _
   rw [if_neg (Nat.ne_of_lt hg'),if_neg (by rw [hg]; intro e; exact hl (Option.some.inj e))]
   exact hg
  ·show (if _ then _ else _) = _
   rw [if_neg (by intro e; exact hb (by rw [e]))]
  ·intro b hb ver' fz' cs' hs' hne
   injection hb with hb
   subst hb
   rw [St.set_same] at hs'
   injection hs' with _ e2 e3
   subst e2
   subst e3
   have had:W'.ad b = ⟨w.heap.size,0,none⟩ := by show (if _ then _ else _) = _; rw [if_pos rfl]
   rw [had]
   refine ⟨rfl,⟨?_,vs,el,hnew⟩,fun j c hj => ?_⟩
   ·show (if _ then _ else _) = _
    rw [if_pos rfl]
   ·obtain ⟨v,hv1,hv2⟩ := All2.get hv hj
    refine ⟨v,?_,h1 v (List.mem_of_getElem? hv1),CRep.ext hX _ _ hv2⟩
    rw [Addr.add_mid]
    simp only [World.cell?,hnew,Nat.zero_add]
    simpa using hv1
  ·show g < (w.heap.push _).size
   rw [Array.size_push]
   by_cases e:g = w.heap.size
   ·omega
   ·have:W.ω g ≠ none := by
     intro e'
     apply hg
     show (if _ then _ else _) = _
     rw [if_neg e]
     split
     ·rfl
     ·exact e'
    have := h.lt g this
    omega
  ·show (if _ then _ else _) = _
   rw [if_neg (Nat.ne_of_lt hg)]
   split
   ·rfl
   ·exact hn
 ·refine ⟨by simp [ctx,bvOf_setB],rfl,fun _ => ?_⟩
  show _ = Value.pointer (some ((if _ then _ else _:Addr).add 0))
  rw [if_pos rfl]
  rfl
theorem run_zeroValue {t:TypeId} {i:TypeInfo} {z:Value} (hi:P.info? t = some i) (hz:i.zero = some z):(zeroValue t).run P w = .ok z w := by
 simp only [zeroValue,typeInfo,Sem.run_bind,run_program,Result.andThen_ok,hi,hz,Sem.run_pure]
theorem run_newVar' {t:TypeId} {v:Value}:(newVar t v).run P w = .ok ⟨w.heap.size,0,none⟩ (w.alloc (.cells v.cells t)) := by
 simp only [newVar,newRow,Sem.run_bind,newObj,Sem.run]
 rfl
theorem ok_alloc (hE:E.tt = mkTI P) {o:Oper} {t:TypeId} (ho:o.op = .alloc t):OpOk P E G o := by
 intro s s' r a w W hr h K Q hK
 simp only [Prg.opP,ho] at hr
 obtain ⟨ti,s1,q1,q2⟩ := bind_run hr
 obtain ⟨rfl,hti⟩ := tt_ti hE q1
 obtain ⟨d,s2,q3,q4⟩ := bind_run q2
 obtain ⟨rfl,hd⟩ := dstP_run q3
 obtain ⟨ver,fz0,cs0,e1,e2⟩ := newB_run q4
 obtain ⟨rfl,rfl⟩ := pure_run e2
 obtain ⟨i,z,hi,hz,hzs,hzr,hz1⟩ := hti.zero
 obtain ⟨W',h',hp⟩ := rel_newB h e1 (cs := ti.zero) (vs := z.cells) (el := t) (hzr _) hz1
 refine wp_value ?_ (hK _ _ W' h' (VRep_one.2 hp))
 simp only [execOp,ho,Instr.alloc,Sem.run_bind,run_zeroValue hi hz,Result.andThen_ok,run_newVar',Sem.run_pure]
theorem newCells_run {ti:TI} {r:RV} {cs:List Cell} {X:Ctx} {v:Value} (hr:(Prg.newCells ti r).run s = some (cs,s')) (hv:VRep X r v):s' = s ∧ cs.length = ti.size ∧ All2 (CRep X) cs v.cells.toList ∧ (∀ u ∈ v.cells.toList,u.oneCell' = true) ∧ v.cells.size = ti.size ∧ ∃ g,r = .val g cs := by
 unfold Prg.newCells at hr
 split at hr
 ·split at hr
  ·rename_i hc
   obtain ⟨rfl,rfl⟩ := pure_run hr
   obtain ⟨h1,h2⟩ := VRep.cells hv hc.2.2
   exact ⟨rfl,hc.2.1,h1,h2,by rw [← Array.length_toList,← h1.length,hc.2.1],_,rfl⟩
  ·cases hr
 ·cases hr
theorem ok_box (hE:E.tt = mkTI P) {o:Oper} {t:TypeId} {x:Operand} (ho:o.op = .box t x):OpOk P E G o := by
 intro s s' r a w W hr h K Q hK
 simp only [Prg.opP,ho] at hr
 obtain ⟨v,s0,p1,p2⟩ := bind_run hr
 obtain ⟨rfl,hv⟩ := ev_run h p1
 obtain ⟨ti,s1,q1,q2⟩ := bind_run p2
 obtain ⟨rfl,hti⟩ := tt_ti hE q1
 obtain ⟨d,s2,q3,q4⟩ := bind_run q2
 obtain ⟨rfl,hd⟩ := dstP_run q3
 obtain ⟨cs,s3,q5,q6⟩ := bind_run q4
 obtain ⟨rfl,_,hc,h1,_⟩ := newCells_run q5 hv
 obtain ⟨ver,fz0,cs0,e1,e2⟩ := newB_run q6
 obtain ⟨rfl,rfl⟩ := pure_run e2
 obtain ⟨W',h',hp⟩ := rel_newB h e1 (cs := cs) (vs := (a.eval x).cells) (el := t) hc h1
 refine wp_value ?_ (hK _ _ W' h' (VRep_one.2 hp))
 simp only [execOp,ho,Instr.box,Sem.run_bind,run_newVar',Result.andThen_ok,Sem.run_pure]
end
section
variable {G:Beg} {s s':St} {a:Act} {w w':World} {W W':Wit} {P:Program} {E:Env}
theorem run_storeVar' {t:TypeId} {ti:TI} (hti:TIOk P t ti) {g o:Nat} {v:Value} {cur:Array Value} {el:TypeId} (hg:w.heap[g]? = some (.cells cur el (0,0))) (hs:v.cells.size = ti.size) (hl:o + v.cells.toList.length ≤ cur.size) (h1:∀ u ∈ v.cells.toList,u.oneCell' = true) :
  (storeVar t ⟨g,o,none⟩ v).run P w = .ok () (w.setRow g (cur.toList.take o ++ v.cells.toList ++ cur.toList.drop (o + v.cells.toList.length)).toArray) := by
 obtain ⟨i,hi,hsz⟩ := hti.info
 have hne:¬ v.cells.size ≠ i.size := by rw [hs,hsz]; simp
 have := run_storeCells_at P g o el v.cells.toList 0 cur w hg (by simpa using hl) h1
 simp only [Nat.add_zero] at this
 simp only [storeVar,Sem.run_bind,run_sizeOf hi,Result.andThen_ok]
 rw [if_neg hne]
 exact this
theorem splice_get {α:Type} {cs new:List α} {off:Nat} (hl:off + new.length ≤ cs.length) (j:Nat):(cs.take off ++ new ++ cs.drop (off + new.length))[j]? = if off ≤ j ∧ j < off + new.length then new[j - off]? else cs[j]? := by
 by_cases h1:j < off
 ·rw [if_neg (by omega),List.append_assoc,List.getElem?_append_left (by simp; omega),List.getElem?_take,if_pos h1]
 ·by_cases h2:j < off + new.length
  ·rw [if_pos ⟨by omega,h2⟩,List.getElem?_append_left (by simp; omega),List.getElem?_append_right (by simp; omega)]
   congr 1
   simp
   omega
  ·rw [if_neg (by omega),List.getElem?_append_right (by simp; omega),List.getElem?_drop]
   congr 1
   simp
   omega
theorem splice_len {cs new:List Cell} {off:Nat} (hl:off + new.length ≤ cs.length):(splice off cs new).length = cs.length := by
 unfold splice; simp; omega
theorem rel_storeB (h:Rel G s a w W) {b ver off:Nat} {cs new:List Cell} (hb:s (.B b) = .b ver false cs) (hne:cs ≠ []) (hl:off + new.length ≤ cs.length) {us:List Value} (hv:All2 (CRep (ctx s w W)) new us) (h1:∀ u ∈ us,u.oneCell' = true) :
  ∃ g o cur el,W.ad b = ⟨g,o,none⟩ ∧ w.heap[g]? = some (.cells cur el (0,0)) ∧ o + off + us.length ≤ cur.size ∧
   Rel G (s.set (.B b) (.b ver false (splice off cs new))) a (w.setRow g (cur.toList.take (o + off) ++ us ++ cur.toList.drop (o + off + us.length)).toArray) W := by
 obtain ⟨sp,⟨hω,cur,el,hg⟩,hcells⟩ := h.B b ver false cs hb hne
 generalize had:W.ad b = ad at *
 obtain ⟨g,o,sp'⟩ := ad
 dsimp only at sp hg
 subst sp
 have hul := hv.length
 have hcur:∀ j,j < cs.length → o + j < cur.size := by
  intro j hj
  obtain ⟨v,e1,_⟩ := hcells j _ (List.getElem?_eq_getElem hj)
  rw [Addr.add_mid] at e1
  simp only [World.cell?,hg] at e1
  have := (Array.getElem?_eq_some_iff.1 (by simpa using e1)).1
  exact this
 have hfit:o + off + us.length ≤ cur.size := by
  by_cases e:us.length = 0
  ·have hpos:0 < cs.length := List.length_pos_iff.2 hne
   by_cases e2:off = 0
   ·have := hcur 0 hpos; omega
   ·have := hcur (off - 1) (by omega); omega
  ·have := hcur (off + us.length - 1) (by omega)
   omega
 refine ⟨g,o,cur,el,rfl,hg,hfit,?_⟩
 generalize hcur':(cur.toList.take (o + off) ++ us ++ cur.toList.drop (o + off + us.length)).toArray = cur'
 have hg':(w.setRow g cur').heap[g]? = some (.cells cur' el (0,0)) := setRow_heap w g cur cur' el _ hg
 have hoth:∀ k,k ≠ g → (w.setRow g cur').heap[k]? = w.heap[k]? := fun k hk => setRow_other w g k cur' hk
 have hsz:(w.setRow g cur').heap.size = w.heap.size := by simp [World.setRow]
 have hX:Ext (ctx s w W) (ctx (s.set (.B b) (.b ver false (splice off cs new))) (w.setRow g cur') W) := by
  refine ⟨?_,fun b' => ?_,fun i c => ?_⟩
  ·rintro k ⟨k1,k2⟩
   refine ⟨⟨by rw [hsz]; exact k1,k2⟩,hoth k ?_⟩
   rintro rfl
   rw [hω] at k2
   cases k2
  ·simp only [ctx,bvOf_setB]
   by_cases e:b' = b
   ·subst e; rw [if_pos rfl]; simp [bvOf,hb]
   ·rw [if_neg e]; exact ⟨Nat.le_refl _,fun _ => trivial⟩
  ·simp only [ctx,rvOf_setB]
   exact ⟨Nat.le_refl _,fun _ => trivial⟩
 refine h.change (fun l => l = .B b) (fun l hl => St.set_ne _ _ hl) (fun _ => by simp) (by simp) (fun k l hk hl => ⟨hk,hoth k ?_⟩) (fun _ _ => rfl) (fun _ _ _ => rfl) hX ?_ (fun _ _ e => by cases e) (fun k hk => by rw [hsz]; exact h.lt k hk) rfl rfl rfl (by rw [hsz]; exact Nat.le_refl _) (fun k hk hn => ⟨hn,hoth k ?_⟩)
 ·rintro rfl
  rw [hω] at hk
  exact hl (Option.some.inj hk).symm
 ·intro b' hb' ver' fz' cs' hs' hne'
  injection hb' with hb'
  subst hb'
  rw [St.set_same] at hs'
  injection hs' with _ e2 e3
  subst e2
  subst e3
  rw [had]
  refine ⟨rfl,⟨hω,cur',el,hg'⟩,fun j c hj => ?_⟩
  rw [Addr.add_mid]
  have hcell:(w.setRow g cur').cell? ⟨g,o + j,none⟩ = cur'[o + j]? := by simp [World.cell?,hg']
  rw [hcell]
  have hjl:j < cs.length := by rw [← splice_len hl]; exact (List.getElem?_eq_some_iff.1 hj).1
  unfold splice at hj
  rw [splice_get hl] at hj
  subst hcur'
  rw [List.getElem?_toArray,splice_get (by simpa using hfit)]
  by_cases hin:off ≤ j ∧ j < off + new.length
  ·rw [if_pos hin] at hj
   rw [if_pos (by omega)]
   obtain ⟨v,hv1,hv2⟩ := All2.get hv hj
   refine ⟨v,?_,h1 v (List.mem_of_getElem? hv1),CRep.ext hX _ _ hv2⟩
   rw [show o + j - (o + off) = j - off by omega]
   exact hv1
  ·rw [if_neg hin] at hj
   rw [if_neg (by omega)]
   obtain ⟨v,e1,e2,e3⟩ := hcells j c hj
   refine ⟨v,?_,e2,CRep.ext hX _ _ e3⟩
   rw [Addr.add_mid] at e1
   simpa [World.cell?,hg] using e1
 ·rintro rfl
  rw [hω] at hn
  cases hn
end
section
variable {G:Beg} {s s':St} {a:Act} {w w':World} {W W':Wit} {P:Program} {E:Env}
def Dead (s:St) (l:Pl):Prop := (∃ j c,l = .X j c) ∨ ∃ i c ver,l = .R i c ∧ s l = .r ver none
def Loose (s:St) (W:Wit) (g:Nat):Prop := ∃ l,W.ω g = some l ∧ Dead s l
theorem Dead.not_row {s:St} {i c ver:Nat} {r:Row} (h:s (.R i c) = .r ver (some r)):¬ Dead s (.R i c) := by
 rintro (⟨_,_,e⟩ | ⟨i',c',ver',_,e⟩)
 ·cases e
 ·rw [h] at e; injection e with _ e; cases e
theorem Dead.of_row {s:St} {i c ver:Nat} (h:s (.R i c) = .r ver none):Dead s (.R i c) := .inr ⟨i,c,ver,rfl,h⟩
theorem Dead.not_T {s:St} {i:Nat}:¬ Dead s (.T i) := by rintro (⟨_,_,e⟩ | ⟨_,_,_,e,_⟩) <;> cases e
theorem Dead.not_B {s:St} {i:Nat}:¬ Dead s (.B i) := by rintro (⟨_,_,e⟩ | ⟨_,_,_,e,_⟩) <;> cases e
theorem Dead.not_K {s:St} {i:Nat}:¬ Dead s (.K i) := by rintro (⟨_,_,e⟩ | ⟨_,_,_,e,_⟩) <;> cases e
theorem Dead.not_F {s:St}:¬ Dead s .F := by rintro (⟨_,_,e⟩ | ⟨_,_,_,e,_⟩) <;> cases e
theorem Loose.ne {s:St} {W:Wit} {g:Nat} (h:Loose s W g):W.ω g ≠ none := by obtain ⟨l,e,_⟩ := h; rw [e]; simp
theorem Loose.dead {s:St} {W:Wit} {g:Nat} {l:Pl} (h:Loose s W g) (e:W.ω g = some l):Dead s l := by
 obtain ⟨l',e',hd⟩ := h
 rw [e] at e'
 cases e'
 exact hd
theorem Dead.row {s:St} {i c:Nat} (h:Dead s (.R i c)):∃ ver,s (.R i c) = .r ver none := by
 rcases h with ⟨_,_,e⟩ | ⟨_,_,ver,e,h⟩
 ·cases e
 ·exact ⟨ver,h⟩
def FRep (X:Ctx) (φ:Nat → Prop):Cell → Value → Prop
 | .own z d el e l,v => RowRep X.w X.S φ ⟨false,z,d,el,e,l⟩ v
 | c,v => CRep X c v
theorem FRep_of {X:Ctx} {φ:Nat → Prop} {c:Cell} {v:Value} (h:CRep X c v):FRep X φ c v := by
 cases c <;> first | exact h | exact h.elim
theorem FRep.move {X Y:Ctx} (h:Ext X Y) {φ φ':Nat → Prop} (hφ:∀ g,φ g → φ' g ∧ Y.w.heap[g]? = X.w.heap[g]?) {c:Cell} {v:Value} (hc:FRep X φ c v):FRep Y φ' c v := by
 cases c with
 | own z d el e l => exact RowRep.move h.S hφ hc
 | undef => exact CRep.ext h .undef v hc
 | int k n => exact CRep.ext h (.int k n) v hc
 | bool b => exact CRep.ext h (.bool b) v hc
 | str s => exact CRep.ext h (.str s) v hc
 | nil el e => exact CRep.ext h (.nil el e) v hc
 | sl z el e l => exact CRep.ext h (.sl z el e l) v hc
 | row i c ver => exact CRep.ext h (.row i c ver) v hc
 | ptr b ver off => exact CRep.ext h (.ptr b ver off) v hc
 | eptr i c ver k sz off => exact CRep.ext h (.eptr i c ver k sz off) v hc
 | sptr e x off => exact CRep.ext h (.sptr e x off) v hc
 | fptr f e x => exact CRep.ext h (.fptr f e x) v hc
 | fn f caps => exact CRep.ext h (.fn f caps) v hc
theorem rel_takeR (h:Rel G s a w W) {i c ver:Nat} {r:Row} (hr:s (.R i c) = .r ver (some r)) :
  Rel G (s.set (.R i c) (.r ver none)) a w W ∧ Ext (ctx s w W) (ctx (s.set (.R i c) (.r ver none)) w W) := by
 have hrv:rvOf s i c = ver := by simp [rvOf,hr]
 have hX:Ext (ctx s w W) (ctx (s.set (.R i c) (.r ver none)) w W) := by
  refine ⟨fun g hg => ⟨hg,rfl⟩,fun b => ?_,fun x y => ?_⟩
  ·simp only [ctx,bvOf_setR]; exact ⟨Nat.le_refl _,fun _ => trivial⟩
  ·simp only [ctx,rvOf_setR]
   split
   ·rename_i e; obtain ⟨rfl,rfl⟩ := e; rw [hrv]; exact ⟨Nat.le_refl _,fun _ => trivial⟩
   ·exact ⟨Nat.le_refl _,fun _ => trivial⟩
 refine ⟨?_,hX⟩
 refine h.change (fun l => l = .R i c) (fun l hl => St.set_ne _ _ hl) (fun _ => by simp) (by simp) (fun g l hg hl => ⟨hg,rfl⟩) (fun _ _ => rfl) (fun _ _ _ => rfl) hX (fun _ e => by cases e) ?_ h.lt rfl rfl rfl (Nat.le_refl _) (fun g _ hn => ⟨hn,rfl⟩)
 intro i' c' e ver' r' hr'
 injection e with e1 e2
 subst e1
 subst e2
 rw [St.set_same] at hr'
 injection hr' with _ hr'
 cases hr'
theorem Loose.mono {i c ver:Nat} {r:Option Row} (hr:s (.R i c) = .r ver r) {g:Nat} (hg:Loose s W g):Loose (s.set (.R i c) (.r ver none)) W g := by
 obtain ⟨l,h1,h2⟩ := hg
 refine ⟨l,h1,?_⟩
 rcases h2 with h2 | ⟨x,y,v,rfl,h2⟩
 ·exact .inl h2
 ·by_cases e:x = i ∧ y = c
  ·obtain ⟨rfl,rfl⟩ := e
   exact .inr ⟨x,y,ver,rfl,by rw [St.set_same]⟩
  ·exact .inr ⟨x,y,v,rfl,by rw [St.set_ne _ _ (by intro h; injection h with h3 h4; exact e ⟨h3,h4⟩)]; exact h2⟩
structure Took (s s':St) (W:Wit) (w:World) (cs:List Cell) (vs:List Value) (ψ:Nat → Nat → Prop):Prop where
 rep:∀ (j:Nat) (c:Cell),cs[j]? = some c → ∃ v,vs[j]? = some v ∧ FRep (ctx s' w W) (ψ j) c v
 loose:∀ j g,ψ j g → Loose s' W g ∧ ¬ Loose s W g
 apart:∀ i j g,ψ i g → ψ j g → i = j
 mono:∀ g,Loose s W g → Loose s' W g
 ext:Ext (ctx s w W) (ctx s' w W)
 len:cs.length = vs.length
theorem take_run (h:Rel G s a w W) {c y:Cell} {v:Value} (hr:(Prg.take c).run s = some (y,s')) (hv:CRep (ctx s w W) c v) :
  Rel G s' a w W ∧ ∃ ψ:Nat → Prop,FRep (ctx s' w W) ψ y v ∧ (∀ g,ψ g → Loose s' W g ∧ ¬ Loose s W g) ∧ (∀ g,Loose s W g → Loose s' W g) ∧ Ext (ctx s w W) (ctx s' w W) := by
 have triv:(y = c ∧ s' = s) → Rel G s' a w W ∧ ∃ ψ:Nat → Prop,FRep (ctx s' w W) ψ y v ∧ (∀ g,ψ g → Loose s' W g ∧ ¬ Loose s W g) ∧ (∀ g,Loose s W g → Loose s' W g) ∧ Ext (ctx s w W) (ctx s' w W) := by
  rintro ⟨rfl,rfl⟩
  exact ⟨h,fun _ => False,FRep_of hv,fun _ h => h.elim,fun _ h => h,Ext.refl _⟩
 cases c with
 | row i c ver =>
  obtain ⟨r,h1,h2⟩ := getR_run hr
  obtain ⟨rfl,_⟩ := row_reads h h1 hv
  have hR := h.R i c ver r h1
  split at h2
  ·rename_i hf
   obtain ⟨rfl,rfl⟩ := pure_run h2
   refine ⟨h,fun _ => False,?_,fun _ h => h.elim,fun _ h => h,Ext.refl _⟩
   obtain ⟨hz,hR⟩ := hR
   rw [if_pos hf] at hR
   exact ⟨hz,hR⟩
  ·rename_i hf
   have hf:r.fz = false := by simpa using hf
   simp only [Prg.run,Option.some.injEq,Prod.mk.injEq] at h2
   obtain ⟨rfl,rfl⟩ := h2
   obtain ⟨h',hX⟩ := rel_takeR h h1
   refine ⟨h',fun g => W.ω g = some (.R i c),?_,fun g hg => ⟨⟨_,hg,.of_row (by rw [St.set_same])⟩,fun hl => Dead.not_row h1 (hl.dead hg)⟩,fun g => Loose.mono h1,hX⟩
   ·have:r = ⟨false,r.z,r.d,r.el,r.e,r.l⟩ := by rw [← hf]
    show RowRep _ _ _ ⟨false,r.z,r.d,r.el,r.e,r.l⟩ _
    rw [← this]
    exact RowRep.move hX.S (fun g hg => ⟨hg,rfl⟩) hR
 | _ => exact triv (pure_run hr)
theorem mapC_take (cs:List Cell):∀ (s s':St) (ys:List Cell) (vs:List Value),Rel G s a w W → (Prg.mapC Prg.take cs).run s = some (ys,s') → All2 (CRep (ctx s w W)) cs vs →
  Rel G s' a w W ∧ ∃ ψ,Took s s' W w ys vs ψ := by
 induction cs with
 | nil =>
  intro s s' ys vs h hr hv
  obtain ⟨rfl,rfl⟩ := pure_run hr
  cases vs with
  | nil => exact ⟨h,fun _ _ => False,⟨fun j c hj => by simp at hj,fun _ _ h => h.elim,fun _ _ _ h => h.elim,fun _ h => h,Ext.refl _,rfl⟩⟩
  | cons _ _ => exact hv.elim
 | cons c cs ih =>
  intro s s' ys vs h hr hv
  cases vs with
  | nil => exact hv.elim
  | cons v vs =>
   obtain ⟨y,s1,q1,q2⟩ := bind_run hr
   obtain ⟨ys',s2,q3,q4⟩ := bind_run q2
   obtain ⟨rfl,rfl⟩ := pure_run q4
   obtain ⟨h1,ψ0,f1,f2,f3,f4⟩ := take_run h q1 hv.1
   obtain ⟨h2,ψ,T⟩ := ih s1 _ _ vs h1 q3 (All2.imp (CRep.ext f4) _ _ hv.2)
   refine ⟨h2,fun j => match j with | 0 => ψ0 | j + 1 => ψ j,⟨fun j c' hj => ?_,fun j g hg => ?_,fun i j g hi hj => ?_,fun g hg => T.mono g (f3 g hg),f4.trans T.ext,by simp [T.len]⟩⟩
   ·cases j with
    | zero =>
     simp at hj
     subst hj
     exact ⟨v,rfl,FRep.move T.ext (fun g hg => ⟨hg,rfl⟩) f1⟩
    | succ j => simpa using T.rep j c' (by simpa using hj)
   ·cases j with
    | zero => exact ⟨T.mono g (f2 g hg).1,(f2 g hg).2⟩
    | succ j => exact ⟨(T.loose j g hg).1,fun hl => (T.loose j g hg).2 (f3 g hl)⟩
   ·cases i with
    | zero =>
     cases j with
     | zero => rfl
     | succ j => exact absurd (f2 g hi).1 (T.loose j g hj).2
    | succ i =>
     cases j with
     | zero => exact absurd (f2 g hj).1 (T.loose i g hi).2
     | succ j => rw [T.apart i j g hi hj]
end
section
variable {G:Beg} {s s':St} {a:Act} {w w':World} {W W':Wit} {P:Program} {E:Env}
def FAll (X:Ctx) (ψ:Nat → Nat → Prop):Nat → List Cell → List Value → Prop
 | _,[],[] => True
 | k,c :: cs,v :: vs => FRep X (ψ k) c v ∧ FAll X ψ (k + 1) cs vs
 | _,_,_ => False
theorem FAll.of {X:Ctx} {ψ:Nat → Nat → Prop}:∀ (cs:List Cell) (vs:List Value) (k:Nat),cs.length = vs.length → (∀ (j:Nat) (c:Cell),cs[j]? = some c → ∃ v,vs[j]? = some v ∧ FRep X (ψ (k + j)) c v) → FAll X ψ k cs vs
 | [],[],_,_,_ => trivial
 | c :: cs,v :: vs,k,hl,h => by
  obtain ⟨v',e1,e2⟩ := h 0 c rfl
  simp at e1
  subst e1
  exact ⟨e2,FAll.of cs vs (k + 1) (by simpa using hl) (fun j c' hj => by
   have := h (j + 1) c' (by simpa using hj)
   rw [show k + (j + 1) = k + 1 + j by omega] at this
   simpa using this)⟩
theorem FAll.length {X:Ctx} {ψ:Nat → Nat → Prop}:∀ {cs:List Cell} {vs:List Value} {k:Nat},FAll X ψ k cs vs → cs.length = vs.length
 | [],[],_,_ => rfl
 | _ :: _,_ :: _,_,h => by simp [FAll.length h.2]
theorem FAll.drop {X:Ctx} {ψ:Nat → Nat → Prop}:∀ {cs:List Cell} {vs:List Value} {k:Nat} (n:Nat),FAll X ψ k cs vs → FAll X ψ (k + n) (cs.drop n) (vs.drop n)
 | [],[],_,n,_ => by cases n <;> trivial
 | _ :: _,_ :: _,_,0,h => h
 | _ :: _,_ :: _,k,n + 1,h => by
  rw [show k + (n + 1) = k + 1 + n by omega]
  exact FAll.drop n h.2
theorem FAll.of_all {X:Ctx} {ψ:Nat → Nat → Prop}:∀ {cs:List Cell} {vs:List Value} {k:Nat},All2 (CRep X) cs vs → FAll X ψ k cs vs
 | [],[],_,_ => trivial
 | _ :: _,_ :: _,_,h => ⟨FRep_of h.1,FAll.of_all h.2⟩
theorem Took.all {cs:List Cell} {vs:List Value} {ψ:Nat → Nat → Prop} (T:Took s s' W w cs vs ψ):FAll (ctx s' w W) ψ 0 cs vs :=
 FAll.of cs vs 0 T.len (fun j c hj => by rw [Nat.zero_add]; exact T.rep j c hj)
theorem castL_some {e e':Ty} {l:List e.den} {l':List e'.den} (h:castL e e' l = some l'):∃ he:e = e',l' = he ▸ l := by
 unfold castL at h
 split at h
 ·rename_i he; cases h; exact ⟨he,rfl⟩
 ·cases h
theorem pack_rep {X:Ctx} {ψ:Nat → Nat → Prop} (hψ:∀ i j g,ψ i g → ψ j g → i = j) (e:Ty):∀ (cs:List Cell) (vs:List Value) (k:Nat) (x:e.den) (d:Bool) (rest:List Cell),pack e cs = some (x,d,rest) → FAll X ψ k cs vs →
  rest = cs.drop e.size ∧ e.size ≤ cs.length ∧ (d = true → OWc X.w e x (fun g => ∃ j,k ≤ j ∧ j < k + e.size ∧ ψ j g) (vs.take e.size)) ∧ ROc X.w (fun g => X.S g ∨ ∃ j,ψ j g) e x (vs.take e.size) := by
 have hS:∀ g,X.S g → (X.S g ∨ ∃ j,ψ j g) ∧ X.w.heap[g]? = X.w.heap[g]? := fun g hg => ⟨.inl hg,rfl⟩
 induction e with
 | int k =>
  intro cs vs k0 x d rest h hv
  simp only [pack] at h
  unfold packInt at h
  split at h
  ·split at h
   ·rename_i hk
    subst hk
    cases h
    match vs,hv with
    | v :: vs,hv =>
     have:v = .int _ _ := hv.1
     subst this
     exact ⟨rfl,by simp [Ty.size],fun _ => rfl,rfl⟩
   ·cases h
  ·cases h
 | bool =>
  intro cs vs k0 x d rest h hv
  simp only [pack] at h
  unfold packBool at h
  split at h
  ·cases h
   match vs,hv with
   | v :: vs,hv =>
    have:v = .bool _ := hv.1
    subst this
    exact ⟨rfl,by simp [Ty.size],fun _ => rfl,rfl⟩
  ·cases h
 | str =>
  intro cs vs k0 x d rest h hv
  simp only [pack] at h
  unfold packStr at h
  split at h
  ·cases h
   match vs,hv with
   | v :: vs,hv =>
    have:v = .string _ := hv.1
    subst this
    exact ⟨rfl,by simp [Ty.size],fun _ => rfl,rfl⟩
  ·cases h
 | sl el e ih =>
  intro cs vs k x d rest h hv
  simp only [pack] at h
  unfold packSl at h
  split at h
  ·cases h
   match vs,hv with
   | v :: vs,hv =>
    have:v = .slice none 0 0 := hv.1
    subst this
    refine ⟨rfl,by simp [Ty.size],fun _ => ?_,none,0,rfl,⟨Nat.le_refl _,fun _ => rfl⟩,fun i x hx => by simp at hx⟩
    exact ⟨_,[],rfl,ownR_nil _ _ _ _,fun g hg => by simp [Value.ownBlock] at hg,fun _ _ => False,fun _ _ hg => hg.elim,fun _ _ _ hg => hg.elim,fun i x hx => by simp at hx⟩
  ·split at h
   ·rename_i hel
    subst hel
    obtain ⟨l',e1,e2⟩ := Option.bind_eq_some_iff.1 h
    obtain ⟨he,rfl⟩ := castL_some e1
    subst he
    cases e2
    match vs,hv with
    | v :: vs,hv =>
     have hc:zOk _ v ∧ ROc X.w X.S _ _ [v] := hv.1
     exact ⟨rfl,by simp [Ty.size],fun e => by (cases e),ROc.move hS _ _ _ hc.2⟩
   ·cases h
  ·split at h
   ·rename_i hel
    subst hel
    obtain ⟨l',e1,e2⟩ := Option.bind_eq_some_iff.1 h
    obtain ⟨he,rfl⟩ := castL_some e1
    subst he
    cases e2
    match vs,hv with
    | v :: vs,hv =>
     have hc:RowRep X.w X.S (ψ k) _ v := hv.1
     refine ⟨rfl,by simp [Ty.size],fun hd => ?_,RowRep.ro hc (fun g hg => .inr ⟨k,hg⟩) (fun g hg => .inl hg)⟩
     obtain ⟨_,hc⟩ := hc
     rw [if_neg (by simp)] at hc
     obtain ⟨vals,o1,o2,o3⟩ := hc
     rw [if_pos hd] at o3
     obtain ⟨χ,o4,o5,o6⟩ := o3
     refine ⟨v,vals,rfl,o1,fun g hg => ⟨k,Nat.le_refl _,by simp [Ty.size],o2 g hg⟩,χ,fun i g hg => ⟨⟨k,Nat.le_refl _,by simp [Ty.size],(o4 i g hg).1⟩,(o4 i g hg).2⟩,o5,o6⟩
   ·cases h
  ·cases h
 | pair a b iha ihb =>
  intro cs vs k x d rest h hv
  simp only [pack] at h
  obtain ⟨⟨x1,d1,r1⟩,e1,h⟩ := Option.bind_eq_some_iff.1 h
  obtain ⟨⟨x2,d2,r2⟩,e2,h⟩ := Option.bind_eq_some_iff.1 h
  cases h
  obtain ⟨rfl,l1,w1,o1⟩ := iha cs vs k x1 d1 r1 e1 hv
  obtain ⟨rfl,l2,w2,o2⟩ := ihb _ _ _ x2 d2 r2 e2 (hv.drop a.size)
  have hlen := hv.length
  simp only [List.length_drop] at l2
  have hsplit:vs.take (a.size + b.size) = vs.take a.size ++ (vs.drop a.size).take b.size := by rw [List.take_add]
  refine ⟨by simp [Ty.size],by simp only [Ty.size]; omega,fun hd => ?_,?_⟩
  ·simp only [Bool.and_eq_true] at hd
   refine ⟨vs.take a.size,(vs.drop a.size).take b.size,_,_,hsplit,by simp; omega,?_,?_,?_,w1 hd.1,w2 hd.2⟩
   ·rintro g ⟨j,j1,j2,j3⟩; exact ⟨j,j1,by simp only [Ty.size]; omega,j3⟩
   ·rintro g ⟨j,j1,j2,j3⟩; exact ⟨j,by omega,by simp only [Ty.size]; omega,j3⟩
   ·rintro g ⟨j,j1,j2,j3⟩ ⟨i,i1,i2,i3⟩
    have := hψ _ _ _ j3 i3
    omega
  ·exact ⟨vs.take a.size,(vs.drop a.size).take b.size,hsplit,by simp; omega,o1,o2⟩
end
section
variable {G:Beg} {s s':St} {a:Act} {w w':World} {W W':Wit} {P:Program} {E:Env}
theorem RowRep.one {S φ:Nat → Prop} {r:Row} {v:Value} (h:RowRep w S φ r v):v.oneCell' = true := by
 obtain ⟨_,h⟩ := h
 split at h
 ·obtain ⟨A,cap,e,_⟩ := h; simp only [List.cons.injEq,and_true] at e; rw [e]; rfl
 ·obtain ⟨vals,o,_⟩ := h
  obtain ⟨A,cap,e,_⟩ := ownR.has o
  rw [e]; rfl
theorem rel_layR (h:Rel G s a w W) {d c ver:Nat} {r0:Option Row} (hd:s (.R d c) = .r ver r0) (ver':Nat) (r:Row) (v:Value) (hver:ver < ver' ∨ (ver' = ver ∧ v = W.sv d c)) (Φ Ψ:Nat → Prop) (hΦ:∀ g,Φ g → Loose s W g) (hΨ:∀ g,Ψ g → Loose s W g)
  (hkeep:∀ g,g < w.heap.size → ¬ Φ g → w'.heap[g]? = w.heap[g]?) (hos:w'.os = w.os) (htape:w'.tape = w.tape) (hout:w'.output = w.output) (hgrow:w.heap.size ≤ w'.heap.size)
  (hrep:RowRep w' (fun g => g < w.heap.size ∧ ¬ Φ g ∧ (W.ω g = none ∨ Ψ g)) (fun g => Φ g ∨ (w.heap.size ≤ g ∧ g < w'.heap.size)) r v) :
  ∃ W',Rel G (s.set (.R d c) (.r ver' (some r))) a w' W' ∧ CRep (ctx (s.set (.R d c) (.r ver' (some r))) w' W') (.row d c ver') v ∧ Ext (ctx s w W) (ctx (s.set (.R d c) (.r ver' (some r))) w' W') ∧
   W'.ad = W.ad ∧ ∀ g l,W.ω g = some l → l ≠ .R d c → ¬ Φ g → ¬ Ψ g → W'.ω g = some l := by
 have hrv:rvOf s d c = ver := by simp [rvOf,hd]
 classical
 let ω':Nat → Option Pl := fun g => if Φ g ∨ (w.heap.size ≤ g ∧ g < w'.heap.size) then some (.R d c) else if Ψ g ∨ W.ω g = some (.R d c) then none else W.ω g
 let W':Wit := ⟨ω',W.ad,fun i j => if i = d ∧ j = c then v else W.sv i j⟩
 have hΦω:∀ g,Φ g → W.ω g ≠ none := fun g hg => (hΦ g hg).ne
 have hω1:∀ g,(Φ g ∨ (w.heap.size ≤ g ∧ g < w'.heap.size)) → ω' g = some (.R d c) := fun g hg => by show (if _ then _ else _) = _; rw [if_pos hg]
 have hω2:∀ g,g < w.heap.size → ¬ Φ g → (W.ω g = none ∨ Ψ g) → ω' g = none := fun g h1 h2 h3 => by
  show (if _ then _ else _) = _
  rw [if_neg (by rintro (e | e); exact h2 e; omega)]
  split
  ·rfl
  ·rename_i h4
   rcases h3 with h3 | h3
   ·exact h3
   ·exact absurd (.inl h3) h4
 have hX:Ext (ctx s w W) (ctx (s.set (.R d c) (.r ver' (some r))) w' W') := by
  refine ⟨?_,fun b => ?_,fun i j => ?_⟩
  ·rintro g ⟨g1,g2⟩
   have hn:¬ Φ g := fun e => hΦω g e g2
   exact ⟨⟨by show g < w'.heap.size; omega,hω2 g g1 hn (.inl g2)⟩,hkeep g g1 hn⟩
  ·simp only [ctx,bvOf_setR]; exact ⟨Nat.le_refl _,fun _ => rfl⟩
  ·simp only [ctx,rvOf_setR]
   by_cases e:i = d ∧ j = c
   ·obtain ⟨rfl,rfl⟩ := e
    rw [if_pos ⟨rfl,rfl⟩,hrv]
    refine ⟨by omega,fun e => ?_⟩
    show (if _ then _ else _) = _
    rw [if_pos ⟨rfl,rfl⟩]
    rcases hver with h1 | h1
    ·omega
    ·exact h1.2
   ·rw [if_neg e]
    exact ⟨Nat.le_refl _,fun _ => by show (if _ then _ else _) = _; rw [if_neg e]⟩
 have hSS:∀ g,(g < w.heap.size ∧ ¬ Φ g ∧ (W.ω g = none ∨ Ψ g)) → (ctx (s.set (.R d c) (.r ver' (some r))) w' W').S g := fun g hg => ⟨by show g < w'.heap.size; omega,hω2 g hg.1 hg.2.1 hg.2.2⟩
 refine ⟨W',?_,?_,hX,rfl,fun g l hg hl hΦg hΨg => by
  show (if _ then _ else _) = _
  rw [if_neg (by rintro (e | e); exact hΦg e; have := h.lt g (by rw [hg]; simp); omega),if_neg (by rintro (e | e); exact hΨg e; rw [hg] at e; exact hl (Option.some.inj e))]
  exact hg⟩
 ·refine h.change (fun l => l = .R d c ∨ Dead s l) (fun l hl => St.set_ne _ _ (fun e => hl (.inl e))) (fun i => ⟨by rintro (e | e); cases e; exact Dead.not_T e,by rintro (e | e); cases e; exact Dead.not_K e⟩) (by rintro (e | e); cases e; exact Dead.not_F e)
   (fun g l hg hl => ?_) (fun _ _ => rfl) (fun i j hij => ?_) hX (fun b hb => ?_) ?_ (fun g hg => ?_) hos htape hout hgrow (fun g hg hn => ?_)
  ·have hglt := h.lt g (by rw [hg]; simp)
   have hn:¬ Φ g := fun e => hl (.inr ((hΦ g e).dead hg))
   by_cases hψ:Ψ g
   ·exact absurd (.inr ((hΨ g hψ).dead hg)) hl
   ·refine ⟨?_,hkeep g hglt hn⟩
    show (if _ then _ else _) = _
    rw [if_neg (by rintro (e | e); exact hn e; omega),if_neg (by
     rintro (e | e)
     ·exact hψ e
     ·rw [hg] at e; exact hl (.inl (Option.some.inj e)))]
    exact hg
  ·show (if _ then _ else _) = _
   rw [if_neg (by rintro ⟨rfl,rfl⟩; exact hij (.inl rfl))]
  ·rcases hb with e | e
   ·cases e
   ·exact absurd e Dead.not_B
  ·intro i j hij ver' r' hr'
   by_cases e:i = d ∧ j = c
   ·obtain ⟨rfl,rfl⟩ := e
    rw [St.set_same] at hr'
    injection hr' with _ hr'
    injection hr' with hr'
    subst hr'
    have:W'.sv i j = v := by show (if _ then _ else _) = _; rw [if_pos ⟨rfl,rfl⟩]
    rw [this]
    exact RowRep.move (fun g hg => ⟨hSS g hg,rfl⟩) (fun g hg => ⟨hω1 g hg,rfl⟩) hrep
   ·rw [St.set_ne _ _ (by intro h'; injection h' with h1 h2; exact e ⟨h1,h2⟩)] at hr'
    rcases hij with h1 | h1
    ·injection h1 with h1 h2; exact absurd ⟨h1,h2⟩ e
    ·obtain ⟨k,h2⟩ := h1.row
     rw [h2] at hr'
     injection hr' with _ hr'
     cases hr'
  ·by_cases e:Φ g ∨ (w.heap.size ≤ g ∧ g < w'.heap.size)
   ·rcases e with e | e
    ·have := h.lt g (hΦω g e); omega
    ·exact e.2
   ·have:W.ω g ≠ none := by
     intro e'
     apply hg
     show (if _ then _ else _) = _
     rw [if_neg e]
     split
     ·rfl
     ·exact e'
    have := h.lt g this
    omega
  ·have hn':¬ Φ g := fun e => hΦω g e hn
   exact ⟨hω2 g hg hn' (.inl hn),hkeep g hg hn'⟩
 ·refine ⟨by simp [ctx,rvOf_setR],hrep.one,fun _ => ?_⟩
  show v = (if _ then _ else _)
  rw [if_pos ⟨rfl,rfl⟩]
theorem rel_newR (h:Rel G s a w W) {d c ver:Nat} {r0:Option Row} (hd:s (.R d c) = .r ver r0) (r:Row) (v:Value) (Φ Ψ:Nat → Prop) (hΦ:∀ g,Φ g → Loose s W g) (hΨ:∀ g,Ψ g → Loose s W g)
  (hkeep:∀ g,g < w.heap.size → ¬ Φ g → w'.heap[g]? = w.heap[g]?) (hos:w'.os = w.os) (htape:w'.tape = w.tape) (hout:w'.output = w.output) (hgrow:w.heap.size ≤ w'.heap.size)
  (hrep:RowRep w' (fun g => g < w.heap.size ∧ ¬ Φ g ∧ (W.ω g = none ∨ Ψ g)) (fun g => Φ g ∨ (w.heap.size ≤ g ∧ g < w'.heap.size)) r v) :
  ∃ W',Rel G (s.set (.R d c) (.r (ver + 1) (some r))) a w' W' ∧ CRep (ctx (s.set (.R d c) (.r (ver + 1) (some r))) w' W') (.row d c (ver + 1)) v ∧ Ext (ctx s w W) (ctx (s.set (.R d c) (.r (ver + 1) (some r))) w' W') := by
 obtain ⟨W',h1,h2,h3,_⟩ := rel_layR h hd (ver + 1) r v (.inl (Nat.lt_succ_self _)) Φ Ψ hΦ hΨ hkeep hos htape hout hgrow hrep
 exact ⟨W',h1,h2,h3⟩
theorem packAll_some {e:Ty} {cs:List Cell} {x:e.den} {d:Bool} (h:packAll e cs = some (x,d)):pack e cs = some (x,d,[]) := by
 unfold packAll at h
 split at h
 ·rename_i h1; cases h; exact h1
 ·cases h
structure Packed (s s':St) (W:Wit) (w:World) (e:Ty) (xs:List e.den) (d:Bool) (vs:List Value) (ψ:Nat → Nat → Prop):Prop where
 len:xs.length = vs.length
 rep:∀ (i:Nat) (x:e.den),xs[i]? = some x → ∃ v,vs[i]? = some v ∧ v.cells.size = e.size ∧ (∀ u ∈ v.cells.toList,u.oneCell' = true) ∧ (d = true → OWc w e x (ψ i) v.cells.toList) ∧ ROc w (fun g => (ctx s' w W).S g ∨ ψ i g) e x v.cells.toList
 loose:∀ j g,ψ j g → Loose s' W g ∧ ¬ Loose s W g
 apart:∀ i j g,ψ i g → ψ j g → i = j
 mono:∀ g,Loose s W g → Loose s' W g
 ext:Ext (ctx s w W) (ctx s' w W)
theorem pack_rest (e:Ty):∀ (cs:List Cell) (x:e.den) (d:Bool) (rest:List Cell),pack e cs = some (x,d,rest) → rest = cs.drop e.size := by
 induction e with
 | int k => intro cs x d rest h; simp only [pack] at h; unfold packInt at h; split at h <;> simp_all [Ty.size]
 | bool => intro cs x d rest h; simp only [pack] at h; unfold packBool at h; split at h <;> simp_all [Ty.size]
 | str => intro cs x d rest h; simp only [pack] at h; unfold packStr at h; split at h <;> simp_all [Ty.size]
 | sl el e ih =>
  intro cs x d rest h
  simp only [pack] at h
  unfold packSl at h
  split at h
  ·cases h; rfl
  ·split at h
   ·obtain ⟨l',e1,e2⟩ := Option.bind_eq_some_iff.1 h; cases e2; rfl
   ·cases h
  ·split at h
   ·obtain ⟨l',e1,e2⟩ := Option.bind_eq_some_iff.1 h; cases e2; rfl
   ·cases h
  ·cases h
 | pair a b iha ihb =>
  intro cs x d rest h
  simp only [pack] at h
  obtain ⟨⟨x1,d1,r1⟩,e1,h⟩ := Option.bind_eq_some_iff.1 h
  obtain ⟨⟨x2,d2,r2⟩,e2,h⟩ := Option.bind_eq_some_iff.1 h
  cases h
  rw [ihb _ _ _ _ e2,iha _ _ _ _ e1,List.drop_drop,Ty.size]
theorem pack_defd (e:Ty):∀ (cs:List Cell) (x:e.den) (d:Bool) (rest:List Cell),pack e cs = some (x,d,rest) → (cs.take e.size).all Cell.defd = true := by
 induction e with
 | int k => intro cs x d rest h; simp only [pack] at h; unfold packInt at h; split at h <;> simp_all [Ty.size,Cell.defd]
 | bool => intro cs x d rest h; simp only [pack] at h; unfold packBool at h; split at h <;> simp_all [Ty.size,Cell.defd]
 | str => intro cs x d rest h; simp only [pack] at h; unfold packStr at h; split at h <;> simp_all [Ty.size,Cell.defd]
 | sl el e ih => intro cs x d rest h; simp only [pack] at h; unfold packSl at h; split at h <;> simp_all [Ty.size,Cell.defd]
 | pair a b iha ihb =>
  intro cs x d rest h
  simp only [pack] at h
  obtain ⟨⟨x1,d1,r1⟩,e1,h⟩ := Option.bind_eq_some_iff.1 h
  obtain ⟨⟨x2,d2,r2⟩,e2,h⟩ := Option.bind_eq_some_iff.1 h
  have h1 := iha _ _ _ _ e1
  have h2 := ihb _ _ _ _ e2
  simp only [Ty.size,List.take_add,List.all_append,Bool.and_eq_true]
  refine ⟨h1,?_⟩
  have:r1 = cs.drop a.size := by
   clear ihb iha h1 h2 e2 h
   exact pack_rest a _ _ _ _ e1
  rw [← this]
  exact h2
theorem FAll.one {X:Ctx} {ψ:Nat → Nat → Prop}:∀ {cs:List Cell} {vs:List Value} {k:Nat},FAll X ψ k cs vs → cs.all Cell.defd = true → ∀ u ∈ vs,u.oneCell' = true
 | [],[],_,_,_,u,hu => by cases hu
 | c :: cs,v :: vs,k,h,hd,u,hu => by
  simp only [List.all_cons,Bool.and_eq_true] at hd
  rcases List.mem_cons.1 hu with rfl | hu
  ·have := h.1
   cases c with
   | own z d el e l => exact RowRep.one this
   | undef => cases hd.1
   | int k n => exact CRep.one (X := X) (.int k n) _ this rfl
   | bool b => exact CRep.one (X := X) (.bool b) _ this rfl
   | str s => exact CRep.one (X := X) (.str s) _ this rfl
   | nil el e => exact CRep.one (X := X) (.nil el e) _ this rfl
   | sl z el e l => exact CRep.one (X := X) (.sl z el e l) _ this rfl
   | row i c ver => exact CRep.one (X := X) (.row i c ver) _ this rfl
   | ptr b ver off => exact CRep.one (X := X) (.ptr b ver off) _ this rfl
   | eptr i c ver k sz off => exact CRep.one (X := X) (.eptr i c ver k sz off) _ this rfl
   | sptr e x off => exact CRep.one (X := X) (.sptr e x off) _ this rfl
   | fptr f e x => exact CRep.one (X := X) (.fptr f e x) _ this rfl
   | fn f caps => exact CRep.one (X := X) (.fn f caps) _ this rfl
  ·exact FAll.one h.2 hd.2 u hu
theorem cells_of {g:Bool} {vs:List Value} {v:Value} (hv:v = if g then .agg vs.toArray else vs.headD undef) (hg:g = false → vs.length = 1) (h1:∀ u ∈ vs,u.oneCell' = true):v.cells.toList = vs := by
 cases g with
 | true => simp only [if_true] at hv; subst hv; rfl
 | false =>
  obtain ⟨u,rfl⟩ := List.length_eq_one_iff.1 (hg rfl)
  simp at hv
  subst hv
  have := h1 v (by simp)
  cases v <;> first | rfl | cases this
theorem packs_run (e:Ty) (rs:List RV):∀ (s s':St) (xs:List e.den) (d:Bool) (vs:List Value),Rel G s a w W → (Prg.packs e rs).run s = some ((xs,d),s') → All2 (VRep (ctx s w W)) rs vs →
  Rel G s' a w W ∧ ∃ ψ,Packed s s' W w e xs d vs ψ := by
 induction rs with
 | nil =>
  intro s s' xs d vs h hr hv
  obtain ⟨hh,rfl⟩ := pure_run hr
  cases hh
  cases vs with
  | nil => exact ⟨h,fun _ _ => False,⟨rfl,fun i x hx => by simp at hx,fun _ _ h => h.elim,fun _ _ _ h => h.elim,fun _ h => h,Ext.refl _⟩⟩
  | cons _ _ => exact hv.elim
 | cons r rs ih =>
  intro s s' xs d vs h hr hv
  cases vs with
  | nil => exact hv.elim
  | cons v vs =>
   cases r with
   | tup us => cases hr
   | val g cs =>
    obtain ⟨ys,s1,q1,q2⟩ := bind_run (show (Prg.mapC Prg.take cs >>= _).run s = _ from hr)
    split at q2
    ·rename_i x d0 hp
     obtain ⟨⟨xs',d'⟩,s2,q3,q4⟩ := bind_run q2
     obtain ⟨hh,rfl⟩ := pure_run q4
     cases hh
     obtain ⟨us,hu1,hu2,hu3⟩ := hv.1
     obtain ⟨h1,χ,T⟩ := mapC_take cs s s1 ys us h q1 hu1
     obtain ⟨h2,ψ,Q⟩ := ih s1 _ xs' d' vs h1 q3 (All2.imp (VRep.ext T.ext) _ _ hv.2)
     have hp' := packAll_some hp
     obtain ⟨e1,e2,e3,e4⟩ := pack_rep T.apart e ys us 0 x d0 [] hp' T.all
     have hlen:ys.length = e.size := by
      have := congrArg List.length e1
      simp at this
      omega
     have htake:us.take e.size = us := List.take_of_length_le (by rw [← T.len]; omega)
     have hdef := pack_defd e ys x d0 [] hp'
     rw [List.take_of_length_le (by omega)] at hdef
     have hone := T.all.one hdef
     have hcells:v.cells.toList = us := cells_of hu2 (fun e => by rw [← hu1.length]; exact hu3 e) hone
     rw [htake] at e3 e4
     refine ⟨h2,fun j => match j with | 0 => fun g => ∃ i,χ i g | j + 1 => ψ j,⟨by simp [Q.len],fun i y hy => ?_,fun j g hg => ?_,fun i j g hi hj => ?_,fun g hg => Q.mono g (T.mono g hg),T.ext.trans Q.ext⟩⟩
     ·cases i with
      | zero =>
       simp at hy
       subst hy
       refine ⟨v,rfl,by rw [← Array.length_toList,hcells,← T.len,hlen],by rw [hcells]; exact hone,fun hd => ?_,?_⟩
       ·simp only [Bool.and_eq_true] at hd
        rw [hcells]
        exact OWc.move (fun g ⟨j,_,_,hj⟩ => ⟨⟨j,hj⟩,rfl⟩) _ _ _ (e3 hd.1)
       ·rw [hcells]
        refine ROc.move (fun g hg => ⟨?_,rfl⟩) _ _ _ e4
        rcases hg with hg | hg
        ·exact .inl (Q.ext.S g hg).1
        ·exact .inr hg
      | succ i =>
       obtain ⟨v',f1,f2,f3,f4,f5⟩ := Q.rep i y (by simpa using hy)
       exact ⟨v',by simpa using f1,f2,f3,fun hd => f4 (by simp only [Bool.and_eq_true] at hd; exact hd.2),f5⟩
     ·cases j with
      | zero => obtain ⟨i,hi⟩ := hg; exact ⟨Q.mono g (T.loose i g hi).1,(T.loose i g hi).2⟩
      | succ j => exact ⟨(Q.loose j g hg).1,fun hl => (Q.loose j g hg).2 (T.mono g hl)⟩
     ·cases i with
      | zero =>
       cases j with
       | zero => rfl
       | succ j => obtain ⟨k,hk⟩ := hi; exact absurd (T.loose k g hk).1 (Q.loose j g hj).2
      | succ i =>
       cases j with
       | zero => obtain ⟨k,hk⟩ := hj; exact absurd (T.loose k g hk).1 (Q.loose i g hi).2
       | succ j => rw [Q.apart i j g hi hj]
    ·cases q2
end
section
variable {G:Beg} {s s':St} {a:Act} {w w':World} {W W':Wit} {P:Program} {E:Env}
theorem flat_part {α β:Type} (f:α → List β) (sz:Nat):∀ (l:List α),(∀ x ∈ l,(f x).length = sz) → ∀ (i:Nat) (x:α),l[i]? = some x → ((l.flatMap f).drop (i * sz)).take sz = f x
 | [],_,i,x,hx => by simp at hx
 | y :: l,h,0,x,hx => by
  simp at hx
  subst hx
  have := h y (by simp)
  simp [List.flatMap_cons,← this]
 | y :: l,h,i + 1,x,hx => by
  have h1 := h y (by simp)
  rw [List.flatMap_cons,show (i + 1) * sz = (f y).length + i * sz by rw [h1,Nat.add_mul,Nat.one_mul,Nat.add_comm],← List.drop_drop,List.drop_left]
  exact flat_part f sz l (fun x hx => h x (by simp [hx])) i x (by simpa using hx)
theorem flat_len {α β:Type} (f:α → List β) (sz:Nat):∀ (l:List α),(∀ x ∈ l,(f x).length = sz) → (l.flatMap f).length = l.length * sz
 | [],_ => by simp
 | y :: l,h => by
  rw [List.flatMap_cons,List.length_append,h y (by simp),flat_len f sz l (fun x hx => h x (by simp [hx])),List.length_cons,Nat.add_mul,Nat.one_mul,Nat.add_comm]
theorem rel_packed (h:Rel G s' a w W) {e:Ty} {xs:List e.den} {d:Bool} {vs:List Value} {ψ:Nat → Nat → Prop} (Q:Packed s s' W w e xs d vs ψ) {i c ver el:Nat} {r0:Option Row} (hd:s' (.R i c) = .r ver r0) (hn:vs.length ≤ maxLen) :
  ∃ W',Rel G (s'.set (.R i c) (.r (ver + 1) (some ⟨false,.non,d || e.flat,el,e,xs⟩))) a (w.alloc (.cells (vs.flatMap fun v => v.cells.toList).toArray el)) W' ∧
   CRep (ctx (s'.set (.R i c) (.r (ver + 1) (some ⟨false,.non,d || e.flat,el,e,xs⟩))) (w.alloc (.cells (vs.flatMap fun v => v.cells.toList).toArray el)) W') (.row i c (ver + 1)) (.slice (some ⟨w.heap.size,0,none⟩) vs.length vs.length) := by
 have hcl:∀ v ∈ vs,v.cells.toList.length = e.size := by
  intro v hv
  obtain ⟨j,hj,rfl⟩ := List.getElem_of_mem hv
  have hjx:j < xs.length := by rw [Q.len]; exact hj
  obtain ⟨v',e1,e2,_⟩ := Q.rep j _ (List.getElem?_eq_getElem hjx)
  rw [List.getElem?_eq_getElem hj] at e1
  cases e1
  rw [Array.length_toList,e2]
 generalize hvals:(vs.flatMap fun v => v.cells.toList) = vals
 have hvl:vals.length = vs.length * e.size := by rw [← hvals]; exact flat_len _ _ _ hcl
 have hpart:∀ (j:Nat) (v:Value),vs[j]? = some v → (vals.drop (j * e.size)).take e.size = v.cells.toList := by
  intro j v hv
  rw [← hvals]
  exact flat_part _ _ _ hcl j v hv
 generalize hw':w.alloc (.cells vals.toArray el) = w'
 have hnew:w'.heap[w.heap.size]? = some (.cells vals.toArray el (0,0)) := by rw [← hw']; exact heap_alloc_new w _
 have hold:∀ g,g < w.heap.size → w'.heap[g]? = w.heap[g]? := fun g hg => by rw [← hw']; exact heap_alloc_old w _ g hg
 have hsz:w'.heap.size = w.heap.size + 1 := by rw [← hw']; simp
 have hlt:∀ j g,ψ j g → g < w.heap.size := fun j g hg => h.lt g (Q.loose j g hg).1.ne
 have hown:ownR w' 0 el e.size (.slice (some ⟨w.heap.size,0,none⟩) vs.length vs.length) xs.length vals := by
  rw [Q.len]
  exact ⟨hvl,.inr ⟨w.heap.size,vs.length,vals.toArray,rfl,Nat.zero_le _,hnew,Nat.le_refl _,hn,by simp [hvl],by simp [← hvl]⟩⟩
 have mk:∀ (Φ Ψ:Nat → Prop),(∀ g,Φ g → ∃ j,ψ j g) → (∀ g,Ψ g → ∃ j,ψ j g) →
   (if (d || e.flat) = true then ∃ χ:Nat → Nat → Prop,(∀ i g,χ i g → (Φ g ∨ (w.heap.size ≤ g ∧ g < w'.heap.size)) ∧ (Value.slice (some ⟨w.heap.size,0,none⟩) vs.length vs.length).ownBlock ≠ some g) ∧ (∀ i j g,χ i g → χ j g → i = j) ∧
    ∀ (i:Nat) (x:e.den),xs[i]? = some x → OWc w' e x (χ i) ((vals.drop (i * e.size)).take e.size)
   else ∀ (i:Nat) (x:e.den),xs[i]? = some x → ROc w' (fun g => g < w.heap.size ∧ ¬ Φ g ∧ (W.ω g = none ∨ Ψ g)) e x ((vals.drop (i * e.size)).take e.size)) →
   ∃ W',Rel G (s'.set (.R i c) (.r (ver + 1) (some ⟨false,.non,d || e.flat,el,e,xs⟩))) a w' W' ∧
    CRep (ctx (s'.set (.R i c) (.r (ver + 1) (some ⟨false,.non,d || e.flat,el,e,xs⟩))) w' W') (.row i c (ver + 1)) (.slice (some ⟨w.heap.size,0,none⟩) vs.length vs.length) := by
  intro Φ Ψ hΦ hΨ hel
  have lo:∀ g,(∃ j,ψ j g) → Loose s' W g := fun g ⟨j,hj⟩ => (Q.loose j g hj).1
  obtain ⟨W',h1,h2,_⟩ := rel_newR (w' := w') h hd ⟨false,.non,d || e.flat,el,e,xs⟩ (.slice (some ⟨w.heap.size,0,none⟩) vs.length vs.length) Φ Ψ (fun g hg => lo g (hΦ g hg)) (fun g hg => lo g (hΨ g hg))
   (fun g hg _ => hold g hg) (by rw [← hw']; rfl) (by rw [← hw']; rfl) (by rw [← hw']; rfl) (by omega)
   ⟨⟨_,_,_,rfl⟩,by
    rw [if_neg (by simp)]
    exact ⟨vals,hown,fun g hg => .inr (by simp [Value.ownBlock] at hg; omega),hel⟩⟩
  exact ⟨W',h1,h2⟩
 by_cases hdd:d = true
 ·refine mk (fun g => ∃ j,ψ j g) (fun _ => False) (fun _ h => h) (fun _ h => h.elim) ?_
  rw [if_pos (by simp [hdd])]
  refine ⟨ψ,fun j g hg => ⟨.inl ⟨j,hg⟩,?_⟩,Q.apart,fun j x hx => ?_⟩
  ·have := hlt j g hg
   intro e'
   simp [Value.ownBlock] at e'
   omega
  ·obtain ⟨v,e1,_,_,e4,_⟩ := Q.rep j x hx
   rw [hpart j v e1]
   exact OWc.move (fun g hg => ⟨hg,hold g (hlt j g hg)⟩) _ _ _ (e4 hdd)
 ·have hdf:d = false := by simpa using hdd
  by_cases hfl:e.flat = true
  ·refine mk (fun _ => False) (fun _ => False) (fun _ h => h.elim) (fun _ h => h.elim) ?_
   rw [if_pos (by simp [hfl])]
   refine ⟨fun _ _ => False,fun _ _ h => h.elim,fun _ _ _ h => h.elim,fun j x hx => ?_⟩
   obtain ⟨v,e1,_,_,_,e5⟩ := Q.rep j x hx
   rw [hpart j v e1]
   refine ROc.flat _ _ _ hfl (ROc.move (S' := fun _ => True) (fun g hg => ⟨trivial,hold g ?_⟩) _ _ _ e5)
   rcases hg with hg | hg
   ·exact hg.1
   ·exact hlt j g hg
  ·refine mk (fun _ => False) (fun g => ∃ j,ψ j g) (fun _ h => h.elim) (fun _ h => h) ?_
   rw [if_neg (by simp [hdf,hfl])]
   intro j x hx
   obtain ⟨v,e1,_,_,_,e5⟩ := Q.rep j x hx
   rw [hpart j v e1]
   refine ROc.move (fun g hg => ?_) _ _ _ e5
   rcases hg with hg | hg
   ·exact ⟨⟨hg.1,fun h => h.elim,.inl hg.2⟩,hold g hg.1⟩
   ·exact ⟨⟨hlt j g hg,fun h => h.elim,.inr ⟨j,hg⟩⟩,hold g (hlt j g hg)⟩
theorem newRow_run {d:Nat} {r:Row} {x:RV} (h:(Prg.newRow d r).run s = some (x,s')):∃ ver r0,s (.R d 0) = .r ver r0 ∧ x = one (.row d 0 (ver + 1)) ∧ s' = s.set (.R d 0) (.r (ver + 1) (some r)) := by
 obtain ⟨ver,r0,h1,h2⟩ := newR_run h
 obtain ⟨e1,e2⟩ := pure_run h2
 exact ⟨ver,r0,h1,e1,e2⟩
theorem zip_range {α β:Type} (l:List (Nat×α)) (f:α → β):∀ (k:Nat),l.map (·.1) = List.range' k l.length → l.map (fun p => (p.1,f p.2)) = ((l.map fun p => f p.2).zipIdx k).map fun x => (x.2,x.1) := by
 induction l with
 | nil => intro k _; rfl
 | cons p l ih =>
  intro k h
  simp only [List.map_cons,List.length_cons,List.range'_succ,List.cons.injEq] at h
  simp only [List.map_cons,List.zipIdx_cons,List.cons.injEq]
  exact ⟨by rw [h.1],ih (k + 1) h.2⟩
theorem ok_buildSlice (hE:E.tt = mkTI P) {o:Oper} {t:TypeId} {len:Nat} {parts:Array (Nat×Operand)} (ho:o.op = .buildSlice t len parts):OpOk P E G o := by
 intro s s' r a w W hr h K Q hK
 simp only [Prg.opP,ho] at hr
 obtain ⟨rs,s1,q1,q2⟩ := bind_run hr
 obtain ⟨rfl,hrs⟩ := evs_run h _ _ _ _ q1
 obtain ⟨te,s2,q3,q4⟩ := bind_run q2
 obtain ⟨rfl,hte,ei,z,hei,hes,_,hpos,hz,hzok⟩ := tt_elem hE q3
 obtain ⟨d,s3,q5,q6⟩ := bind_run q4
 obtain ⟨rfl,_⟩ := dstP_run q5
 obtain ⟨_,s4,q7,q8⟩ := bind_run q6
 obtain ⟨⟨hidx,hlim⟩,rfl⟩ := chk_run q7
 obtain ⟨⟨xs,dd⟩,s5,q9,q10⟩ := bind_run q8
 obtain ⟨h5,ψ,Q5⟩ := packs_run te.2.1 rs _ _ xs dd _ h q9 hrs
 obtain ⟨ver,r0,hv0,rfl,rfl⟩ := newRow_run q10
 generalize hvs:parts.toList.map (fun p => a.eval p.2) = vs
 have hvs':(parts.toList.map (·.2)).map a.eval = vs := by rw [← hvs]; simp
 rw [hvs'] at Q5
 have hplen:parts.toList.length = len := by
  have := congrArg List.length hidx
  simpa using this
 have hvlen:vs.length = len := by rw [← hvs]; simp; simpa using hplen
 have hcl:∀ v ∈ vs,v.cells.size = ei.size := by
  intro v hv
  obtain ⟨j,hj,rfl⟩ := List.getElem_of_mem hv
  have hjx:j < xs.length := by rw [Q5.len]; exact hj
  obtain ⟨v',e1,e2,_⟩ := Q5.rep j _ (List.getElem?_eq_getElem hjx)
  rw [List.getElem?_eq_getElem hj] at e1
  cases e1
  rw [e2,hes]
 have hmax:vs.length ≤ maxLen := by
  rw [hvlen]
  have:len * 1 ≤ len * te.2.1.size := Nat.mul_le_mul_left _ (by rw [← hes]; omega)
  simp only [maxLen]
  omega
 obtain ⟨W',h6,h7⟩ := rel_packed (el := te.1) h5 Q5 hv0 hmax
 refine wp_value ?_ (hK _ _ W' h6 (VRep_one.2 h7))
 have hfill:Instr.fill (fun i => some (i * ei.size,ei.size)) ((Array.range (len * ei.size)).map ((if len * ei.size = 0 then #[] else z.cells)[· % (if len * ei.size = 0 then (#[]:Array Value) else z.cells).size]!)) (parts.map fun (p:Nat×Operand) => (p.1,a.eval p.2)).toList = some (vs.flatMap fun v => v.cells.toList).toArray := by
  rw [Array.toList_map,zip_range parts.toList a.eval 0 (by rw [hidx,hplen,List.range_eq_range'])]
  rw [hvs]
  exact Great.fill_whole hpos vs _ hcl (by simp [hvlen])
 have hlim':¬ (len * ei.size > 2 ^ 24) := by rw [hes]; omega
 simp only [execOp,ho,Instr.buildSlice,Sem.run_bind,run_underlying hte,Result.andThen_ok,run_sizeOf hei,if_neg hlim',Sem.run_pure]
 by_cases hzero:len * ei.size = 0
 ·simp only [hzero,if_true] at hfill ⊢
  simp only [Sem.run_bind,Sem.run_pure,Result.andThen_ok,hfill]
  simp only [newRow,Sem.run_bind,newObj,Sem.run,Result.andThen_ok,Sem.run_pure,hvlen]
  rfl
 ·simp only [hzero,if_false] at hfill ⊢
  simp only [Sem.run_bind,run_zeroValue hei hz,Sem.run_pure,Result.andThen_ok,hfill]
  simp only [newRow,Sem.run_bind,newObj,Sem.run,Result.andThen_ok,Sem.run_pure,hvlen]
  rfl
end
section
variable {G:Beg} {s s':St} {a:Act} {w w':World} {W W':Wit} {P:Program} {E:Env}
structure Elems (X:Ctx) (ψ:Nat → Prop) (ob:Option Nat) (e:Ty) (l:List e.den) (vals:List Value) (dp:Bool):Prop where
 deep:dp = true → ∃ χ:Nat → Nat → Prop,(∀ i g,χ i g → ψ g ∧ ob ≠ some g) ∧ (∀ i j g,χ i g → χ j g → i = j) ∧ ∀ (i:Nat) (x:e.den),l[i]? = some x → OWc X.w e x (χ i) ((vals.drop (i * e.size)).take e.size)
 ro:∀ (i:Nat) (x:e.den),l[i]? = some x → ROc X.w (fun g => X.S g ∨ (ψ g ∧ ob ≠ some g)) e x ((vals.drop (i * e.size)).take e.size)
 len:vals.length = l.length * e.size
theorem elems_of {X:Ctx} {ψ:Nat → Prop} {c:Cell} {v:Value} {el:Nat} {e:Ty} {l:List e.den} (hz:0 < e.size) (hc:FRep X ψ c v) (hl:(∃ z,c = .sl z el e l) ∨ (∃ z d,c = .own z d el e l) ∨ (∃ el' e',c = .nil el' e' ∧ l = [])) :
  ∃ vals A cap,v = .slice A l.length cap ∧ l.length ≤ cap ∧ Elems X ψ v.ownBlock e l vals (Prg.deepOf c) ∧ (0 < l.length → ∃ g off,A = some ⟨g,off,none⟩ ∧ Has X.w g off vals) ∧
   ((∃ z d,c = .own z d el e l) → ownR X.w 0 el e.size v l.length vals ∧ ∀ g,v.ownBlock = some g → ψ g) := by
 rcases hl with ⟨z,rfl⟩ | ⟨z,d,rfl⟩ | ⟨el',e',rfl,rfl⟩
 ·obtain ⟨_,A,cap,h1,h2,h3⟩ := (show zOk z v ∧ ROc X.w X.S (.sl el e) l [v] from hc)
  simp only [List.cons.injEq,and_true] at h1
  -- the elements' cells,side by side
  have key:∀ (m:List e.den) (k:Nat),(∀ (i:Nat) (x:e.den),m[i]? = some x → ∃ g off c,A = some ⟨g,off,none⟩ ∧ c.length = e.size ∧ Has X.w g (off + (k + i) * e.size) c ∧ ROc X.w X.S e x c) →
    ∃ vals:List Value,vals.length = m.length * e.size ∧ (∀ (i:Nat) (x:e.den),m[i]? = some x → ROc X.w X.S e x ((vals.drop (i * e.size)).take e.size)) ∧ (0 < m.length → ∃ g off,A = some ⟨g,off,none⟩ ∧ Has X.w g (off + k * e.size) vals) := by
   intro m
   induction m with
   | nil => intro k _; exact ⟨[],by simp,fun i x hx => by simp at hx,fun h => absurd h (by simp)⟩
   | cons y m ih =>
    intro k hk
    obtain ⟨g,off,c,e1,e2,e3,e4⟩ := hk 0 y rfl
    obtain ⟨vals,i1,i2,i3⟩ := ih (k + 1) (fun i x hx => by
     have := hk (i + 1) x (by simpa using hx)
     rwa [show k + (i + 1) = k + 1 + i by omega] at this)
    refine ⟨c ++ vals,by simp [e2,i1,Nat.add_mul]; omega,fun i x hx => ?_,fun _ => ⟨g,off,e1,?_⟩⟩
    ·cases i with
     | zero =>
      simp at hx
      subst hx
      simp only [Nat.zero_mul,List.drop_zero]
      rw [← e2,List.take_left]
      exact e4
     | succ i =>
      have := i2 i x (by simpa using hx)
      rwa [show (i + 1) * e.size = c.length + i * e.size by rw [e2,Nat.add_mul,Nat.one_mul,Nat.add_comm],← List.drop_drop,List.drop_left]
    ·intro j u hj
     by_cases hjc:j < c.length
     ·rw [List.getElem?_append_left hjc] at hj
      have := e3 j u hj
      rwa [Nat.add_zero] at this
     ·rw [List.getElem?_append_right (by omega)] at hj
      have hm:0 < m.length := by
       have := (List.getElem?_eq_some_iff.1 hj).1
       rw [i1] at this
       by_cases hm:m.length = 0
       ·rw [hm] at this; simp at this
       ·omega
      obtain ⟨g',off',f1,f2⟩ := i3 hm
      rw [e1] at f1
      cases f1
      have := f2 _ u hj
      rwa [show off + (k + 1) * e.size + (j - c.length) = off + k * e.size + j by rw [Nat.add_mul,Nat.one_mul,← e2]; omega] at this
  obtain ⟨vals,k1,k2,k3⟩ := key l 0 (fun i x hx => by
   obtain ⟨g,off,c,e1,_,e2,e3,e4⟩ := h3 i x hx
   exact ⟨g,off,c,e1,e2,by rwa [Nat.zero_add],e4⟩)
  refine ⟨vals,A,cap,h1,h2.1,⟨fun h => (by cases h),fun i x hx => ROc.move (fun g hg => ⟨.inl hg,rfl⟩) _ _ _ (k2 i x hx),k1⟩,fun hp => ?_,?_⟩
  ·obtain ⟨g,off,f1,f2⟩ := k3 hp
   exact ⟨g,off,f1,by rwa [Nat.zero_mul,Nat.add_zero] at f2⟩
  ·rintro ⟨_,_,h⟩; cases h
 ·obtain ⟨_,hR⟩ := (show RowRep X.w X.S ψ ⟨false,z,d,el,e,l⟩ v from hc)
  rw [if_neg (by simp)] at hR
  obtain ⟨vals,o1,o2,o3⟩ := hR
  obtain ⟨A,cap,e1,e2,e3⟩ := ownR.has o1
  refine ⟨vals,A,cap,e1,e2.1,⟨fun hd => ?_,fun i x hx => ?_,o1.1⟩,fun hp => ?_,fun _ => ⟨o1,o2⟩⟩
  ·have hd:d = true := hd
   rw [if_pos hd] at o3
   exact o3
  ·split at o3
   ·obtain ⟨χ,o4,_,o6⟩ := o3
    exact OWc.ro (fun g hg => .inr (o4 i g hg)) _ _ _ (o6 i x hx)
   ·exact ROc.move (fun g hg => ⟨.inl hg,rfl⟩) _ _ _ (o3 i x hx)
  ·obtain ⟨g,f1,_,f3⟩ := e3 hp
   exact ⟨g,0,f1,f3⟩
 ·have:v = .slice none 0 0 := hc
  subst this
  refine ⟨[],none,0,rfl,Nat.le_refl _,⟨fun _ => ⟨fun _ _ => False,fun _ _ h => h.elim,fun _ _ _ h => h.elim,fun i x hx => by simp at hx⟩,fun i x hx => by simp at hx,by simp⟩,fun h => absurd h (by simp),?_⟩
  rintro ⟨_,_,h⟩; cases h
theorem Elems.one {X:Ctx} {ψ:Nat → Prop} {ob:Option Nat} {e:Ty} {l:List e.den} {vals:List Value} {dp:Bool} (h:Elems X ψ ob e l vals dp) (hz:0 < e.size):∀ u ∈ vals,u.oneCell' = true := by
 intro u hu
 obtain ⟨j,hj,rfl⟩ := List.getElem_of_mem hu
 have hjl:j / e.size < l.length := (Nat.div_lt_iff_lt_mul hz).2 (by rw [← h.len]; exact hj)
 have hr := h.ro (j / e.size) _ (List.getElem?_eq_getElem hjl)
 obtain ⟨_,o⟩ := cellsOf_rep (X := { X with S := fun g => X.S g ∨ (ψ g ∧ ob ≠ some g) }) _ _ _ hr
 refine o _ (List.mem_of_getElem? (i := j % e.size) ?_)
 rw [List.getElem?_take,if_pos (Nat.mod_lt _ hz),List.getElem?_drop,Nat.mul_comm,Nat.div_add_mod]
 exact List.getElem?_eq_getElem hj
theorem run_append_none {t ty el:TypeId} {i:TypeInfo} (ht:P.underlying t = some (.slice el)) (hi:P.info? el = some i) {A:Option Addr} {n cap c:Nat} (hn:n ≤ cap) :
  (Builtin.append_ #[t,t] ty #[.slice A n cap,.slice none 0 c]).run P w = .ok (.slice A n cap) w := by
 have hs := fun w => run_sizeOf (P := P) (w := w) hi
 cases A <;> simp [Builtin.append_,run_underlying ht,hs,Builtin.lenOf,hn,Builtin.firstCells,storeCells]
end
section
variable {G:Beg} {s s':St} {a:Act} {w w':World} {W W':Wit} {P:Program} {E:Env}
theorem append_own {t ty e:TypeId} {i:TypeInfo} {z:Value} (ht:P.underlying t = some (.slice e)) (hi:P.info? e = some i) (hz:i.zero = some z) (hzs:z.cells.size = i.size) (hsz:0 < i.size)
  {v:Value} {n:Nat} {xs:List Value} (hown:ownR w 0 e i.size v n xs)
  {ad:Addr} {m c:Nat} {news:List Value} (hl:news.length = m * i.size) (hnews:∀ j u,news[j]? = some u → w.cell? (ad.add j) = some u) (h1:∀ u ∈ news,u.oneCell' = true)
  (h63:n + m ≤ maxLen) (hbytes:(n + m) * i.bytes ≤ 140737488355328) :
  ∃ v' w',(Builtin.append_ #[t,t] ty #[v,.slice (some ad) m c]).run P w = .ok v' w' ∧ ownR w' 0 e i.size v' (n + m) (xs ++ news) ∧ w.grownBy w' v.ownBlock ∧
   (v'.ownBlock = v.ownBlock ∨ v'.ownBlock = some w.heap.size) := by
 have hlen:(xs ++ news).length = (n + m) * i.size := by rw [List.length_append,hown.1,hl,Nat.add_mul]
 have hsmall:n + m ≤ 9223372036854775807 := by simp only [maxLen] at h63; omega
 have fresh:∀ (old:Nat) (row:Option Nat),
   ownR (w.drew.alloc (.cells (xs.toArray ++ news.toArray ++ Builtin.zeroCells z.cells (grownCap w (n + m) old e - (n + m))) e)) 0 e i.size
    (.slice (some ⟨w.heap.size,0,none⟩) (n + m) (grownCap w (n + m) old e)) (n + m) (xs ++ news) ∧
   w.grownBy (w.drew.alloc (.cells (xs.toArray ++ news.toArray ++ Builtin.zeroCells z.cells (grownCap w (n + m) old e - (n + m))) e)) row := by
  intro old row
  have hge := grownCap_ge w (n + m) old e
  refine ⟨⟨hlen,.inr ⟨w.heap.size,_,_,rfl,Nat.zero_le _,heap_alloc_new w.drew _,hge,grownCap_le_maxLen w (n + m) old e h63,?_,?_⟩⟩,⟨rfl,rfl,rfl,by simp,fun k hk _ => heap_alloc_old w.drew _ k hk⟩⟩
  ·simp only [Array.size_append,List.size_toArray,size_zeroCells,hzs,hown.1,hl,← Nat.add_mul]
   refine Nat.mul_le_mul_right _ ?_
   omega
  ·simp only [Array.toList_append,List.append_assoc]
   rw [← List.append_assoc,← hlen]
   exact List.take_left
 rcases hown.2 with ⟨hv,hn0⟩ | ⟨g,cap,cur,hv,_,hg,hnc,hcm,hcs,htake⟩
 ·subst hv
  subst hn0
  have hx:xs = [] := List.eq_nil_of_length_eq_zero (by simpa using hown.1)
  subst hx
  by_cases hm:m = 0
  ·subst hm
   have hn:news = [] := List.eq_nil_of_length_eq_zero (by simpa using hl)
   subst hn
   refine ⟨.slice none 0 0,w,?_,ownR_nil w 0 e i.size,⟨rfl,rfl,rfl,Nat.le_refl _,fun _ _ _ => rfl⟩,.inl rfl⟩
   simp [Builtin.append_,run_underlying ht,sizeOf,typeInfo,hi,Builtin.lenOf,Builtin.firstCells,loadCells,loadCellsFrom]
  ·have hr := run_append_nil (P := P) w t ty e i z ht hi hz ad m c news hl hnews (by omega) (by omega) (by have hb := hbytes; simp only [Nat.zero_add] at hb; omega)
   have hgr := fresh 0 (Value.ownBlock (.slice none 0 0))
   simp only [Nat.zero_add,List.nil_append,Array.empty_append] at hgr ⊢
   exact ⟨_,_,hr,hgr.1,hgr.2,.inr rfl⟩
 ·subst hv
  by_cases hroom:n + m ≤ cap
  ·have hfit:n * i.size + news.length ≤ cur.size := by rw [hl,← Nat.add_mul]; exact Nat.le_trans (Nat.mul_le_mul_right _ hroom) hcs
   have hr := run_append_room (P := P) w t ty e i ht hi g n cap cur hg ad m c news hl hnews h1 hroom hfit
   refine ⟨_,_,hr,⟨hlen,.inr ⟨g,cap,_,rfl,Nat.zero_le _,setRow_heap w g cur _ e _ hg,hroom,hcm,?_,?_⟩⟩,⟨rfl,rfl,rfl,by simp,fun k _ hk => setRow_other w g k _ (fun e => hk (by simp [Value.ownBlock,e]))⟩,.inl rfl⟩
   ·simp only [List.size_toArray,List.length_append,List.length_take,List.length_drop,Array.length_toList]
    omega
   ·rw [htake,← hlen]
    exact List.take_left
  ·have holds:∀ j u,xs[j]? = some u → w.cell? ((⟨g,0,none⟩:Addr).add j) = some u := hown.cells (g := g) rfl
   have hr := run_append_grow (P := P) w t ty e i z ht hi hz ⟨g,0,none⟩ n cap xs hown.1 holds ad m c news hl hnews (by omega) (by omega) (growslice_fits (by omega) hbytes)
   have hgr := fresh cap (Value.ownBlock (.slice (some ⟨g,0,none⟩) n cap))
   exact ⟨_,_,hr,hgr.1,hgr.2,.inr rfl⟩
theorem take_shape {c y:Cell} {r:Row} {s0:St} (h1:(Prg.rowOf c).run s = some (r,s0)) (h2:(Prg.take c).run s = some (y,s')) :
  (∃ el' e',y = .nil el' e' ∧ r = ⟨true,.nil,true,el',e',[]⟩) ∨ y = .sl r.z r.el r.e r.l ∨ y = .own r.z r.d r.el r.e r.l := by
 unfold Prg.rowOf at h1
 split at h1
 ·obtain ⟨rfl,_⟩ := pure_run h1
  obtain ⟨rfl,_⟩ := pure_run h2
  exact .inl ⟨_,_,rfl,rfl⟩
 ·obtain ⟨rfl,_⟩ := pure_run h1
  obtain ⟨rfl,_⟩ := pure_run h2
  exact .inr (.inl rfl)
 ·obtain ⟨r1,e1,e2⟩ := getR_run h1
  obtain ⟨rfl,_⟩ := pure_run e2
  obtain ⟨r2,e3,e4⟩ := getR_run h2
  rw [e1] at e3
  injection e3 with _ e3
  injection e3 with e3
  subst e3
  split at e4
  ·obtain ⟨rfl,_⟩ := pure_run e4
   exact .inr (.inl rfl)
  ·simp only [Prg.run,Option.some.injEq,Prod.mk.injEq] at e4
   obtain ⟨rfl,_⟩ := e4
   exact .inr (.inr rfl)
 ·cases h1
theorem part_left {xs ys:List Value} {n sz i:Nat} (h:xs.length = n * sz) (hi:i < n):((xs ++ ys).drop (i * sz)).take sz = (xs.drop (i * sz)).take sz := by
 have h1:(i + 1) * sz ≤ n * sz := Nat.mul_le_mul_right _ hi
 rw [Nat.add_mul,Nat.one_mul] at h1
 rw [List.drop_append_of_le_length (by omega),List.take_append_of_le_length (by simp; omega)]
theorem part_right {xs ys:List Value} {n sz i:Nat} (h:xs.length = n * sz) (hi:n ≤ i):((xs ++ ys).drop (i * sz)).take sz = (ys.drop ((i - n) * sz)).take sz := by
 congr 1
 obtain ⟨k,rfl⟩:∃ k,i = n + k := ⟨i - n,by omega⟩
 rw [Nat.add_mul,← h,← List.drop_drop,List.drop_left,Nat.add_sub_cancel_left]
theorem rel_append (h:Rel G s a w W) {d ver el:Nat} {r0:Option Row} (hd:s (.R d 0) = .r ver r0) {e:Ty} (hz:0 < e.size) {lx ly:List e.den} {ψx ψy:Nat → Prop} {v v':Value} {valsX valsY:List Value} {dx dy:Bool} {z:NZ}
  (hψx:∀ g,ψx g → Loose s W g) (hψy:∀ g,ψy g → Loose s W g) (hxy:∀ g,ψx g → ψy g → False) (hob:∀ g,v.ownBlock = some g → ψx g)
  (ex:Elems (ctx s w W) ψx v.ownBlock e lx valsX dx) {oy:Option Nat} (ey:Elems (ctx s w W) ψy oy e ly valsY dy ∨ (e.flat = true ∧ Elems { ctx s w W with S := fun _ => True } ψy oy e ly valsY dy))
  (hown:ownR w' 0 el e.size v' (lx ++ ly).length (valsX ++ valsY)) (hgr:w.grownBy w' v.ownBlock) (hb:v'.ownBlock = v.ownBlock ∨ v'.ownBlock = some w.heap.size) (hzz:zOk z v') :
  ∃ W',Rel G (s.set (.R d 0) (.r (ver + 1) (some ⟨false,z,e.flat || (dx&&dy),el,e,lx ++ ly⟩))) a w' W' ∧
   CRep (ctx (s.set (.R d 0) (.r (ver + 1) (some ⟨false,z,e.flat || (dx&&dy),el,e,lx ++ ly⟩))) w' W') (.row d 0 (ver + 1)) v' := by
 have hltx:∀ g,ψx g → g < w.heap.size := fun g hg => h.lt g (hψx g hg).ne
 have hlty:∀ g,ψy g → g < w.heap.size := fun g hg => h.lt g (hψy g hg).ne
 have hblk:∀ g,g < w.heap.size → v.ownBlock ≠ some g → w'.heap[g]? = w.heap[g]? := fun g h1 h2 => hgr.block g h1 (fun e => h2 e.symm)
 have hv'lt:∀ g,v'.ownBlock = some g → g < w'.heap.size := fun g hg => (ownR.lt hown g hg).2
 have hv'φ:∀ g,v'.ownBlock = some g → ψx g ∨ (w.heap.size ≤ g ∧ g < w'.heap.size) := by
  intro g hg
  rcases hb with e | e
  ·exact .inl (hob g (by rw [← e]; exact hg))
  ·rw [hg] at e
   injection e with e
   exact .inr ⟨by omega,hv'lt g hg⟩
 have hv'ne:∀ g,g < w.heap.size → v.ownBlock ≠ some g → v'.ownBlock ≠ some g := by
  intro g h1 h2 h3
  rcases hb with e | e
  ·exact h2 (by rw [← e]; exact h3)
  ·rw [h3] at e; injection e with e; omega
 have hSob:∀ g,(ctx s w W).S g → v.ownBlock ≠ some g := by
  rintro g ⟨_,g2⟩ e
  exact (hψx g (hob g e)).ne g2
 have hyob:∀ g,ψy g → v.ownBlock ≠ some g := fun g hg e => hxy g (hob g e) hg
 have hlx := ex.len
 have fin:∀ (Φ Ψ:Nat → Prop),(∀ g,v.ownBlock = some g → Φ g) → (∀ g,Φ g → ψx g ∨ ψy g) → (∀ g,Ψ g → ψx g ∨ ψy g) →
   (if (e.flat || (dx&&dy)) = true then ∃ χ:Nat → Nat → Prop,(∀ i g,χ i g → (Φ g ∨ (w.heap.size ≤ g ∧ g < w'.heap.size)) ∧ v'.ownBlock ≠ some g) ∧ (∀ i j g,χ i g → χ j g → i = j) ∧
    ∀ (i:Nat) (x:e.den),(lx ++ ly)[i]? = some x → OWc w' e x (χ i) (((valsX ++ valsY).drop (i * e.size)).take e.size)
   else ∀ (i:Nat) (x:e.den),(lx ++ ly)[i]? = some x → ROc w' (fun g => g < w.heap.size ∧ ¬ Φ g ∧ (W.ω g = none ∨ Ψ g)) e x (((valsX ++ valsY).drop (i * e.size)).take e.size)) →
   ∃ W',Rel G (s.set (.R d 0) (.r (ver + 1) (some ⟨false,z,e.flat || (dx&&dy),el,e,lx ++ ly⟩))) a w' W' ∧
    CRep (ctx (s.set (.R d 0) (.r (ver + 1) (some ⟨false,z,e.flat || (dx&&dy),el,e,lx ++ ly⟩))) w' W') (.row d 0 (ver + 1)) v' := by
  intro Φ Ψ h1 h2 h3 hel
  have lo:∀ g,(ψx g ∨ ψy g) → Loose s W g := fun g hg => hg.elim (hψx g) (hψy g)
  obtain ⟨W',f1,f2,_⟩ := rel_newR (w' := w') h hd ⟨false,z,e.flat || (dx&&dy),el,e,lx ++ ly⟩ v' Φ Ψ (fun g hg => lo g (h2 g hg)) (fun g hg => lo g (h3 g hg))
   (fun g hg hn => hblk g hg (fun e => hn (h1 g e))) hgr.os hgr.tape hgr.output hgr.size
   ⟨hzz,by
    rw [if_neg (by simp)]
    refine ⟨valsX ++ valsY,hown,fun g hg => ?_,hel⟩
    rcases hb with e | e
    ·exact .inl (h1 g (by rw [← e]; exact hg))
    ·rw [hg] at e; injection e with e; exact .inr ⟨by omega,hv'lt g hg⟩⟩
  exact ⟨W',f1,f2⟩
 by_cases hfl:e.flat = true
 ·refine fin (fun g => v.ownBlock = some g) (fun _ => False) (fun _ h => h) (fun g hg => .inl (hob g hg)) (fun _ h => h.elim) ?_
  rw [if_pos (by simp [hfl])]
  refine ⟨fun _ _ => False,fun _ _ h => h.elim,fun _ _ _ h => h.elim,fun i x hx => ?_⟩
  -- plain elements: their cells alone
  have pl:∀ (S0:Nat → Prop) (c:List Value),ROc w S0 e x c → OWc w' e x (fun _ => False) c := by
   intro S0 c hc
   have h0:OWc w e x (fun _ => False) c := ROc.flat _ _ _ hfl hc
   exact OWc.move (fun g h => h.elim) _ _ _ h0
  by_cases hi:i < lx.length
  ·rw [List.getElem?_append_left hi] at hx
   rw [part_left hlx hi]
   exact pl _ _ (ex.ro i x hx)
  ·rw [List.getElem?_append_right (by omega)] at hx
   rw [part_right hlx (by omega)]
   rcases ey with ey | ⟨_,ey⟩
   ·exact pl _ _ (ey.ro _ x hx)
   ·exact pl _ _ (ey.ro _ x hx)
 ·have ey:Elems (ctx s w W) ψy oy e ly valsY dy := by rcases ey with ey | ⟨e1,_⟩; exact ey; exact absurd e1 hfl
  by_cases hdd:(dx&&dy) = true
  ·refine fin (fun g => ψx g ∨ ψy g) (fun _ => False) (fun g hg => .inl (hob g hg)) (fun _ h => h) (fun _ h => h.elim) ?_
   rw [if_pos (by simp only [hdd,Bool.or_true])]
   simp only [Bool.and_eq_true] at hdd
   obtain ⟨χx,x1,x2,x3⟩ := ex.deep hdd.1
   obtain ⟨χy,y1,y2,y3⟩ := ey.deep hdd.2
   refine ⟨fun i => if i < lx.length then χx i else χy (i - lx.length),fun i g hg => ?_,fun i j g hi hj => ?_,fun i x hx => ?_⟩
   ·by_cases hi:i < lx.length
    ·simp only [hi,if_true] at hg
     obtain ⟨g1,g2⟩ := x1 i g hg
     exact ⟨.inl (.inl g1),hv'ne g (hltx g g1) g2⟩
    ·simp only [hi,if_false] at hg
     obtain ⟨g1,_⟩ := y1 _ g hg
     exact ⟨.inl (.inr g1),hv'ne g (hlty g g1) (hyob g g1)⟩
   ·by_cases h1:i < lx.length <;> by_cases h2:j < lx.length
    ·simp only [h1,if_true] at hi; simp only [h2,if_true] at hj; exact x2 i j g hi hj
    ·simp only [h1,if_true] at hi; simp only [h2,if_false] at hj; exact (hxy g (x1 i g hi).1 (y1 _ g hj).1).elim
    ·simp only [h1,if_false] at hi; simp only [h2,if_true] at hj; exact (hxy g (x1 j g hj).1 (y1 _ g hi).1).elim
    ·simp only [h1,if_false] at hi; simp only [h2,if_false] at hj; have := y2 _ _ g hi hj; omega
   ·by_cases hi:i < lx.length
    ·rw [List.getElem?_append_left hi] at hx
     rw [part_left hlx hi]
     simp only [hi,if_true]
     exact OWc.move (fun g hg => ⟨hg,hblk g (hltx g (x1 i g hg).1) (x1 i g hg).2⟩) _ _ _ (x3 i x hx)
    ·rw [List.getElem?_append_right (by omega)] at hx
     rw [part_right hlx (by omega)]
     simp only [hi,if_false]
     exact OWc.move (fun g hg => ⟨hg,hblk g (hlty g (y1 _ g hg).1) (hyob g (y1 _ g hg).1)⟩) _ _ _ (y3 _ x hx)
  ·refine fin (fun g => v.ownBlock = some g) (fun g => (ψx g ∨ ψy g) ∧ v.ownBlock ≠ some g) (fun _ h => h) (fun g hg => .inl (hob g hg)) (fun g hg => hg.1) ?_
   rw [if_neg (by simp only [hfl,Bool.false_or]; exact hdd)]
   intro i x hx
   by_cases hi:i < lx.length
   ·rw [List.getElem?_append_left hi] at hx
    rw [part_left hlx hi]
    refine ROc.move (fun g hg => ?_) _ _ _ (ex.ro i x hx)
    rcases hg with hg | ⟨g1,g2⟩
    ·exact ⟨⟨hg.1,hSob g hg,.inl hg.2⟩,hblk g hg.1 (hSob g hg)⟩
    ·exact ⟨⟨hltx g g1,g2,.inr ⟨.inl g1,g2⟩⟩,hblk g (hltx g g1) g2⟩
   ·rw [List.getElem?_append_right (by omega)] at hx
    rw [part_right hlx (by omega)]
    refine ROc.move (fun g hg => ?_) _ _ _ (ey.ro _ x hx)
    rcases hg with hg | ⟨g1,_⟩
    ·exact ⟨⟨hg.1,hSob g hg,.inl hg.2⟩,hblk g hg.1 (hSob g hg)⟩
    ·exact ⟨⟨hlty g g1,hyob g g1,.inr ⟨.inr g1,hyob g g1⟩⟩,hblk g (hlty g g1) (hyob g g1)⟩
theorem take_other {c y:Cell} (h:(Prg.take c).run s = some (y,s')) {l:Pl} (hl:∀ ver,s' l ≠ .r ver none):s' l = s l := by
 cases c with
 | row i c ver =>
  obtain ⟨r,e1,e2⟩ := getR_run h
  split at e2
  ·obtain ⟨_,rfl⟩ := pure_run e2; rfl
  ·simp only [Prg.run,Option.some.injEq,Prod.mk.injEq] at e2
   obtain ⟨_,rfl⟩ := e2
   by_cases e:l = .R i c
   ·subst e
    exact absurd (St.set_same _ _ _) (hl _)
   ·exact St.set_ne _ _ e
 | _ => obtain ⟨_,rfl⟩ := pure_run h; rfl
theorem grows_run {c:Cell} {u:Unit} (h:(Prg.grows c).run s = some (u,s')):s' = s ∧ ∀ z el e l,c ≠ .sl z el e l := by
 unfold Prg.grows at h
 split at h
 ·cases h
 ·rename_i hc; exact ⟨(pure_run h).2,fun z el e l e' => hc _ _ _ _ e'⟩
theorem zOk_nzAny {z:NZ} {v v':Value} (h:zOk z v) (hv:(∃ a n c,v = .slice (some a) n c) → ∃ a n c,v' = .slice (some a) n c):zOk (nzAny z) v' := by
 cases z with
 | non => exact hv h
 | nil => trivial
 | any => trivial
 | may b => trivial
theorem builtinP_append {dst:Option Nat} {b:Builtin} {ats:List Nat} {xs:List RV} {r:RV} (hb:b = .append) (h:(Prg.builtinP E dst b ats xs).run s = some (r,s')):∃ t t' x y,ats = [t,t'] ∧ xs = [x,y] ∧ (Prg.appP E dst t t' x y).run s = some (r,s') := by
 unfold Prg.builtinP at h
 split at h
 ·cases hb
 ·cases hb
 ·cases hb
 ·exact ⟨_,_,_,_,rfl,rfl,h⟩
 ·cases h
theorem ok_append (hE:E.tt = mkTI P) {o:Oper} {args:Array Operand} {ats:Array Nat} (ho:o.op = .call ⟨.builtin .append,args,ats⟩):OpOk P E G o := by
 intro s s' r a w W hr h K Q hK
 simp only [Prg.opP,ho] at hr
 obtain ⟨rs,s1,q1,q2⟩ := bind_run hr
 obtain ⟨rfl,hrs⟩ := evs_run h _ _ _ _ q1
 have hargs:args.map a.eval = (args.toList.map a.eval).toArray := by rw [← Array.toList_map]
 generalize args.toList.map a.eval = vs at hrs hargs
 obtain ⟨t,t',rx0,ry0,heq,rfl,qq⟩ := builtinP_append rfl q2
 match vs,hrs with
 | [vx,vy],hrs =>
 unfold Prg.appP at qq
 split at qq
 ·rename_i x y _
  obtain ⟨_,s2,q3,q4⟩ := bind_run qq
  obtain ⟨rfl,rfl⟩ := chk_run q3
  obtain rfl:ats = #[t',t'] := by rw [← Array.toList_inj,heq]
  obtain ⟨te,s3,q5,q6⟩ := bind_run q4
  obtain ⟨rfl,hte,ei,zv,hei,hes,heb,hpos,hez,hzok⟩ := tt_elem hE q5
  obtain ⟨d,s4,q7,q8⟩ := bind_run q6
  obtain ⟨rfl,hdst⟩ := dstP_run q7
  obtain ⟨el,e,bytes⟩ := te
  have hcx:CRep (ctx s4 w W) x vx := GRep_one.1 hrs.1
  have hcy:CRep (ctx s4 w W) y vy := GRep_one.1 hrs.2.1
  unfold Prg.appendP at q8
  obtain ⟨rx,s5,p1,p2⟩ := bind_run q8
  obtain ⟨rfl,hrx⟩ := rowOf_run h p1 hcx
  obtain ⟨ry,s6,p3,p4⟩ := bind_run p2
  obtain ⟨rfl,hry⟩ := rowOf_run h p3 hcy
  obtain ⟨_,s7,p5,p6⟩ := bind_run p4
  obtain ⟨⟨hex,hey⟩,rfl⟩ := chk_run p5
  obtain ⟨_,s8,p7,p8⟩ := bind_run p6
  obtain ⟨hsz,rfl⟩ := sure_run p7
  simp only [decide_eq_true_eq] at hsz
  obtain ⟨lx,s9,p9,p10⟩ := bind_run p8
  obtain ⟨hlx,rfl⟩ := ofOpt_run p9
  obtain ⟨ly,s10,p11,p12⟩ := bind_run p10
  obtain ⟨hly,rfl⟩ := ofOpt_run p11
  obtain ⟨y',s11,p13,p14⟩ := bind_run p12
  obtain ⟨x',s12,p15,p16⟩ := bind_run p14
  obtain ⟨_,s13,p17,p18⟩ := bind_run p16
  obtain ⟨rfl,hgrow⟩ := grows_run p17
  obtain ⟨ver,r0,hd,rfl,rfl⟩ := newRow_run p18
  obtain ⟨fzx,zx,dx,elx,ex',lx'⟩ := rx
  obtain ⟨fzy,zy,dy,ely,ey',ly'⟩ := ry
  dsimp only at hex hey hlx hly hsz hdst hte hei hes heb
  subst hex
  subst hey
  obtain ⟨hee,rfl⟩ := castL_some hlx
  subst hee
  obtain ⟨hee,rfl⟩ := castL_some hly
  subst hee
  have hpe:0 < ey'.size := by rw [← hes]; exact hpos
  -- y
  have hY:∃ (ψy:Nat → Prop) (oy:Option Nat) (valsY:List Value) (A:Option Addr) (cap:Nat),Rel G s11 a w W ∧ Ext (ctx s10 w W) (ctx s11 w W) ∧ (∀ g,ψy g → Loose s11 W g ∧ ¬ Loose s10 W g) ∧ vy = .slice A ly'.length cap ∧
    (Elems (ctx s11 w W) ψy oy ey' ly' valsY (Prg.deepOf y') ∨ (ey'.flat = true ∧ Elems { ctx s11 w W with S := fun _ => True } ψy oy ey' ly' valsY (Prg.deepOf y'))) ∧ (0 < ly'.length → ∃ g off,A = some ⟨g,off,none⟩ ∧ Has w g off valsY) ∧ valsY.length = ly'.length * ey'.size ∧ ∀ u ∈ valsY,u.oneCell' = true := by
   by_cases hfl:ey'.flat = true
   ·rw [if_pos hfl] at p13
    obtain ⟨rfl,rfl⟩ := pure_run p13
    have hf:FRep { ctx s11 w W with S := fun _ => True } (fun _ => False) (.sl zy ely ey' ly') vy := hry
    obtain ⟨valsY,A,cap,e1,e2,e3,e4,_⟩ := elems_of hpe hf (.inl ⟨_,rfl⟩)
    refine ⟨fun _ => False,vy.ownBlock,valsY,A,cap,h,Ext.refl _,fun _ h => h.elim,e1,.inr ⟨hfl,⟨fun _ => ⟨fun _ _ => False,fun _ _ h => h.elim,fun _ _ _ h => h.elim,fun i x hx => ?_⟩,e3.ro,e3.len⟩⟩,e4,e3.len,e3.one hpe⟩
    exact ROc.flat _ _ _ hfl (e3.ro i x hx)
   ·rw [if_neg hfl] at p13
    obtain ⟨h',ψ,f1,f2,_,f4⟩ := take_run h p13 hcy
    have hshape:(∃ z,y' = .sl z ely ey' ly') ∨ (∃ z d,y' = .own z d ely ey' ly') ∨ (∃ el2 e2,y' = .nil el2 e2 ∧ ly' = []) := by
     rcases take_shape p3 p13 with ⟨el',e9,e1,e2⟩ | e1 | e1
     ·injection e2 with _ _ _ e3 e4 e5
      subst e3
      subst e4
      exact .inr (.inr ⟨_,_,e1,eq_of_heq e5⟩)
     ·exact .inl ⟨_,e1⟩
     ·exact .inr (.inl ⟨_,_,e1⟩)
    obtain ⟨valsY,A,cap,e1,e2,e3,e4,_⟩ := elems_of hpe f1 hshape
    exact ⟨ψ,vy.ownBlock,valsY,A,cap,h',f4,f2,e1,.inl e3,e4,e3.len,e3.one hpe⟩
  obtain ⟨ψy,oy,valsY,A,cap,h11,X11,hly,evy,eey,hAy,hlY,honeY⟩ := hY
  -- x
  obtain ⟨h12,ψx,f1,f2,f3,f4⟩ := take_run h11 p15 (CRep.ext X11 _ _ hcx)
  have hshape:(∃ z d,x' = .own z d ely ey' lx') ∨ (∃ el2 e2,x' = .nil el2 e2 ∧ lx' = []) := by
   -- x is looked at in the state behind y's taking: the same row,if it is one
   cases x with
   | nil el' e' =>
    obtain ⟨rfl,_⟩ := pure_run p15
    obtain ⟨e2,_⟩ := pure_run p1
    injection e2 with _ _ _ e3 e4 e5
    subst e3
    subst e4
    exact .inr ⟨_,_,rfl,eq_of_heq e5⟩
   | sl z el' e' l =>
    obtain ⟨rfl,_⟩ := pure_run p15
    exact absurd rfl (hgrow _ _ _ _)
   | row i c ver' =>
    obtain ⟨r1,e1,e2⟩ := getR_run p1
    obtain ⟨e3,_⟩ := pure_run e2
    obtain ⟨r2,e4,e5⟩ := getR_run p15
    have e6:s11 (.R i c) = s10 (.R i c) := by
     by_cases hfl:ey'.flat = true
     ·rw [if_pos hfl] at p13
      obtain ⟨_,rfl⟩ := pure_run p13
      rfl
     ·rw [if_neg hfl] at p13
      refine take_other p13 ?_
      intro v7 e7
      rw [e7] at e4
      injection e4 with _ e4
      cases e4
    rw [e6,e1] at e4
    injection e4 with _ e4
    injection e4 with e4
    subst e4
    subst e3
    split at e5
    ·obtain ⟨rfl,_⟩ := pure_run e5
     exact absurd rfl (hgrow _ _ _ _)
    ·simp only [Prg.run,Option.some.injEq,Prod.mk.injEq] at e5
     obtain ⟨rfl,_⟩ := e5
     exact .inl ⟨_,_,rfl⟩
   | _ => cases p1
  obtain ⟨valsX,Ax,capx,evx,hlx,eex,_,hownX⟩ := elems_of hpe f1 (.inr hshape)
  have hxown:ownR w 0 ely ey'.size vx lx'.length valsX ∧ ∀ g,vx.ownBlock = some g → ψx g := by
   rcases hshape with ⟨z,dd,e1⟩ | ⟨el',e9,e1,e2⟩
   ·exact hownX ⟨z,dd,e1⟩
   ·subst e2
    have hvx:vx = .slice none 0 0 := by subst e1; exact f1
    have hv0:valsX = [] := List.eq_nil_of_length_eq_zero (by have := eex.len; simpa using this)
    rw [hvx,hv0]
    exact ⟨ownR_nil _ _ _ _,fun g hg => by simp [Value.ownBlock] at hg⟩
  have hzs:zv.cells.size = ei.size := by rw [hes,← Array.length_toList]; exact (zeroOk_spec hzok).1
  -- the model's append
  have hrun:∃ v' w',(Builtin.append_ #[t',t'] o.type #[vx,vy]).run P w = .ok v' w' ∧ ownR w' 0 ely ey'.size v' (lx' ++ ly').length (valsX ++ valsY) ∧ w.grownBy w' vx.ownBlock ∧ (v'.ownBlock = vx.ownBlock ∨ v'.ownBlock = some w.heap.size) ∧ ((∃ a n c,vx = .slice (some a) n c) → ∃ a n c,v' = .slice (some a) n c) := by
   cases A with
   | none =>
    have hl0:ly'.length = 0 := by
     by_cases e0:ly'.length = 0
     ·exact e0
     ·obtain ⟨g,off,e1,_⟩ := hAy (by omega)
      cases e1
    have hv0:valsY = [] := List.eq_nil_of_length_eq_zero (by rw [hlY,hl0,Nat.zero_mul])
    refine ⟨vx,w,?_,?_,⟨rfl,rfl,rfl,Nat.le_refl _,fun _ _ _ => rfl⟩,.inl rfl,fun h => h⟩
    ·rw [evx,evy,hl0]
     exact run_append_none hte hei hlx
    ·rw [hv0,List.append_nil,List.length_append,hl0,Nat.add_zero]
     exact hxown.1
   | some ad =>
    obtain ⟨v',w',g1,g2,g3,g4⟩ := append_own (P := P) (w := w) (ty := o.type) hte hei hez hzs hpos (v := vx) (n := lx'.length) (xs := valsX) (by rw [hes]; exact hxown.1) (ad := ad) (m := ly'.length) (c := cap) (news := valsY) (by rw [hes]; exact hlY)
     (fun j u hj => by
      by_cases e0:ly'.length = 0
      ·rw [e0,Nat.zero_mul] at hlY
       rw [List.eq_nil_of_length_eq_zero hlY] at hj
       simp at hj
      ·obtain ⟨g,off,e1,e2⟩ := hAy (by omega)
       cases e1
       rw [Addr.add_mid]
       exact e2 j u hj) honeY hsz.2 (by rw [heb]; exact hsz.1)
    refine ⟨v',w',by rw [evy]; exact g1,by rw [List.length_append,← hes]; exact g2,g3,g4,?_⟩
    rintro ⟨b,n,c,hvx⟩
    have hb:∃ k,v'.ownBlock = some k := by
     rcases g4 with e1 | e1
     ·exact ⟨b.block,by rw [e1,hvx]; rfl⟩
     ·exact ⟨_,e1⟩
    obtain ⟨k,hk⟩ := hb
    cases v' with
    | slice b' n' c' =>
     cases b' with
     | none => simp [Value.ownBlock] at hk
     | some b' => exact ⟨_,_,_,rfl⟩
    | _ => simp [Value.ownBlock] at hk
  obtain ⟨v',w',g1,g2,g3,g4,g5⟩ := hrun
  have hzx:zOk (nzAny zx) v' := zOk_nzAny hrx.1 g5
  have X12 := f4
  have eey':Elems (ctx s13 w W) ψy oy ey' ly' valsY (Prg.deepOf y') ∨ (ey'.flat = true ∧ Elems { ctx s13 w W with S := fun _ => True } ψy oy ey' ly' valsY (Prg.deepOf y')) := by
   rcases eey with e1 | ⟨e0,e1⟩
   ·exact .inl ⟨e1.deep,fun i x hx => ROc.move (fun g hg => ⟨hg.imp (fun h => (X12.S g h).1) id,rfl⟩) _ _ _ (e1.ro i x hx),e1.len⟩
   ·exact .inr ⟨e0,⟨e1.deep,e1.ro,e1.len⟩⟩
  obtain ⟨W',h14,h15⟩ := rel_append (w' := w') (v' := v') h12 hd hpe (fun g hg => (f2 g hg).1) (fun g hg => f3 g (hly g hg).1) (fun g hg1 hg2 => (f2 g hg1).2 (hly g hg2).1) hxown.2 eex eey' g2 g3 g4 hzx
  refine wp_value (v := v') (w' := w') (call_args ho ?_ (.inr (.inr (.inr rfl)))) (hK _ _ W' h14 (VRep_one.2 h15))
  rw [hargs]
  simp only [Sem.run_bind,g1,Result.andThen_ok,Sem.run_pure]
 ·cases qq
end
section
variable {G:Beg} {s s':St} {a:Act} {w w':World} {W W':Wit} {P:Program} {E:Env}
theorem madeCells_part {z:Array Value} {n i:Nat} (hz:0 < z.size) (hi:i < n):((madeCells z (n * z.size)).toList.drop (i * z.size)).take z.size = z.toList := by
 apply List.ext_getElem?
 intro k
 rw [List.getElem?_take]
 by_cases hk:k < z.size
 ·rw [if_pos hk,List.getElem?_drop,Array.getElem?_toList]
  have h1:(i + 1) * z.size ≤ n * z.size := Nat.mul_le_mul_right _ hi
  rw [Nat.add_mul,Nat.one_mul] at h1
  have h2:i * z.size + k < n * z.size := by omega
  have h3:(i * z.size + k) % z.size = k := by rw [Nat.mul_comm,Nat.mul_add_mod,Nat.mod_eq_of_lt hk]
  simp [madeCells,h2,h3,hk]
 ·rw [if_neg hk,List.getElem?_eq_none (by simpa using Nat.le_of_not_lt hk)]
theorem ok_makeSlice (hE:E.tt = mkTI P) {o:Oper} {t:TypeId} {l c:Operand} (ho:o.op = .makeSlice t l c):OpOk P E G o := by
 intro s s' r a w W hr h K Q hK
 simp only [Prg.opP,ho] at hr
 obtain ⟨n,s1,q1,q2⟩ := bind_run hr
 obtain ⟨rfl,kn,hn⟩ := asIntP_run h q1
 obtain ⟨m,s2,q3,q4⟩ := bind_run q2
 obtain ⟨rfl,km,hm⟩ := asIntP_run h q3
 obtain ⟨te,s3,q5,q6⟩ := bind_run q4
 obtain ⟨rfl,hte,ei,z,hei,hes,heb,hpos,hz,hzok⟩ := tt_elem hE q5
 obtain ⟨d,s4,q7,q8⟩ := bind_run q6
 obtain ⟨rfl,_⟩ := dstP_run q7
 obtain ⟨_,s5,q9,q10⟩ := bind_run q8
 obtain ⟨hs,rfl⟩ := sure_run q9
 obtain ⟨ver,r0,hd,rfl,rfl⟩ := newRow_run q10
 simp only [decide_eq_true_eq] at hs
 obtain ⟨rfl,h0,h63,h48⟩ := hs
 obtain ⟨k,rfl⟩:∃ k:Nat,n = k := ⟨n.toNat,by omega⟩
 have hkm:k ≤ maxLen := by simp only [maxLen]; omega
 obtain ⟨w',hrun,hown,hgr⟩ := run_make_full (P := P) (w := w) 0 t te.1 ei z ei.size hte hei hz rfl kn km k (by rw [heb]; rw [← Int.natCast_mul] at h48; omega) hkm (Nat.zero_le _)
 have hown := ownR_of hown
 obtain ⟨zl,_,_,zr⟩ := zeroOk_spec hzok
 have hzs:z.cells.size = ei.size := by rw [hes,← Array.length_toList]; exact zl
 obtain ⟨W',h1,h2,_⟩ := rel_newR (w' := w') h hd ⟨false,.non,true,te.1,te.2.1,List.replicate (k:Int).toNat te.2.1.zero⟩ (.slice (some ⟨w.heap.size,0,none⟩) k k) (fun _ => False) (fun _ => False) (fun _ h => h.elim) (fun _ h => h.elim)
  (fun g hg _ => hgr.block g hg (by simp)) hgr.os hgr.tape hgr.output hgr.size
  ⟨⟨_,_,_,rfl⟩,by
   rw [if_neg (by simp)]
   refine ⟨(madeCells z.cells (k * ei.size)).toList,by simpa [← hes] using hown,fun g hg => .inr ?_,?_⟩
   ·have := ownR.lt hown g hg
    simp [Value.ownBlock] at hg
    omega
   ·rw [if_pos rfl]
    refine ⟨fun _ _ => False,fun _ _ h => h.elim,fun _ _ _ h => h.elim,fun i x hx => ?_⟩
    have hi:i < k := by have := (List.getElem?_eq_some_iff.1 hx).1; simpa using this
    have hx':x = te.2.1.zero := by
     rw [List.getElem?_replicate] at hx
     split at hx
     ·injection hx with hx; exact hx.symm
     ·cases hx
    subst hx'
    rw [← hes,← hzs,madeCells_part (by omega) hi]
    exact (zr w' (fun _ => True) _).2⟩
 refine wp_value ?_ (hK _ _ W' h1 (VRep_one.2 h2))
 simp only [execOp,ho,hn,hm,Sem.run_bind,hrun,Result.andThen_ok,Sem.run_pure]
theorem evO_run (h:Rel G s a w W) {x:Option Operand} {r:Option RV} (hr:(Prg.evO E x).run s = some (r,s')):s' = s ∧ (x = none ∧ r = none ∨ ∃ y v,x = some y ∧ r = some v ∧ VRep (ctx s w W) v (a.eval y)) := by
 cases x with
 | none => obtain ⟨rfl,rfl⟩ := pure_run hr; exact ⟨rfl,.inl ⟨rfl,rfl⟩⟩
 | some x =>
  obtain ⟨v,s1,q1,q2⟩ := bind_run hr
  obtain ⟨rfl,hv⟩ := ev_run h q1
  obtain ⟨rfl,rfl⟩ := pure_run q2
  exact ⟨rfl,.inr ⟨x,v,rfl,rfl,hv⟩⟩
theorem boundOf_run {X:Ctx} {dflt y n:Nat} {r:Option RV} {x:Option Operand} (hr:(Prg.boundOf dflt y r).run s = some (n,s')) (hx:x = none ∧ r = none ∨ ∃ z v,x = some z ∧ r = some v ∧ VRep X v (a.eval z)) :
  s' = s ∧ (x = none ∧ n = dflt ∨ ∃ z k i,x = some z ∧ a.eval z = .int k i ∧ 0 ≤ i ∧ i ≤ (y:Int) ∧ n = i.toNat) := by
 rcases hx with ⟨rfl,rfl⟩ | ⟨z,v,rfl,rfl,hv⟩
 ·obtain ⟨rfl,rfl⟩ := pure_run hr; exact ⟨rfl,.inl ⟨rfl,rfl⟩⟩
 ·unfold Prg.boundOf at hr
  split at hr
  ·rename_i heq; cases heq
  ·rename_i k i heq
   cases heq
   obtain ⟨_,s1,q1,q2⟩ := bind_run hr
   obtain ⟨hb,rfl⟩ := sure_run q1
   obtain ⟨rfl,rfl⟩ := pure_run q2
   simp only [decide_eq_true_eq] at hb
   exact ⟨rfl,.inr ⟨z,k,i,rfl,GRep_one.1 hv,hb.1,hb.2,rfl⟩⟩
  ·cases hr
theorem run_sliceBound {k:IntKind} {i:Int} {y:Nat} {code:BoundsCode} (h:0 ≤ i ∧ i ≤ (y:Int)):(Instr.sliceBound (.int k i) y code).run P w = .ok i.toNat w := by
 simp only [Instr.sliceBound,asIntOf,Sem.run_bind,Sem.run_pure,Result.andThen_ok,if_pos h]
theorem run_sliceBounds {isS:Bool} {len cap hn ln:Nat} {lo hi:Option Operand} (hlc:len ≤ cap) (hh:hi = none ∧ hn = len ∨ ∃ z k i,hi = some z ∧ a.eval z = .int k i ∧ 0 ≤ i ∧ i ≤ (len:Int) ∧ hn = i.toNat)
  (hl:lo = none ∧ ln = 0 ∨ ∃ z k i,lo = some z ∧ a.eval z = .int k i ∧ 0 ≤ i ∧ i ≤ (hn:Int) ∧ ln = i.toNat) :
  (Instr.sliceBounds isS len cap (lo.map a.eval) (hi.map a.eval) none).run P w = .ok (ln,hn,cap) w := by
 have h1:∀ (code:BoundsCode) (z:Operand) (k:IntKind) (i:Int),a.eval z = .int k i → 0 ≤ i → i ≤ (len:Int) → (Instr.sliceBound (a.eval z) cap code).run P w = .ok i.toNat w := by
  intro code z k i e1 e2 e3
  rw [e1]
  exact run_sliceBound ⟨e2,by omega⟩
 rcases hh with ⟨rfl,rfl⟩ | ⟨z,k,i,rfl,e1,e2,e3,rfl⟩ <;> rcases hl with ⟨rfl,rfl⟩ | ⟨z',k',i',rfl,f1,f2,f3,rfl⟩
 ·simp only [Instr.sliceBounds,Option.map_none,Sem.run_bind,Sem.run_pure,Result.andThen_ok]
 ·simp only [Instr.sliceBounds,Option.map_none,Option.map_some,Sem.run_bind,Sem.run_pure,Result.andThen_ok,f1,run_sliceBound ⟨f2,f3⟩]
 ·simp only [Instr.sliceBounds,Option.map_none,Option.map_some,Sem.run_bind,Sem.run_pure,Result.andThen_ok,h1 _ z k i e1 e2 e3]
 ·simp only [Instr.sliceBounds,Option.map_none,Option.map_some,Sem.run_bind,Sem.run_pure,Result.andThen_ok,h1 _ z k i e1 e2 e3,f1,run_sliceBound ⟨f2,f3⟩]
theorem rel_freezeR (h:Rel G s a w W) {i c ver:Nat} {r:Row} (hr:s (.R i c) = .r ver (some r)) :
  ∃ W',Rel G (s.set (.R i c) (.r ver (some { r with fz := true }))) a w W' ∧ Ext (ctx s w W) (ctx (s.set (.R i c) (.r ver (some { r with fz := true }))) w W') ∧
   zOk r.z (W.sv i c) ∧ ROc w (ctx (s.set (.R i c) (.r ver (some { r with fz := true }))) w W').S (.sl r.el r.e) r.l [W.sv i c] ∧
   ∀ g l,W.ω g = some l → l ≠ .R i c → W'.ω g = some l := by
 obtain ⟨hb1,hb2⟩ := ctx_row s w W (r := { r with fz := true }) hr
 have hR := h.R i c ver r hr
 let W':Wit := ⟨fun g => if W.ω g = some (.R i c) then none else W.ω g,W.ad,W.sv⟩
 have hS:∀ g,(ctx s w W).S g → (ctx (s.set (.R i c) (.r ver (some { r with fz := true }))) w W').S g := by
  rintro g ⟨g1,g2⟩
  refine ⟨g1,?_⟩
  show (if _ then _ else _) = _
  split
  ·rfl
  ·exact g2
 have hX:Ext (ctx s w W) (ctx (s.set (.R i c) (.r ver (some { r with fz := true }))) w W') :=
  ⟨fun g hg => ⟨hS g hg,rfl⟩,fun b => ⟨by simp [ctx,hb1],fun _ => rfl⟩,fun i c => ⟨by simp [ctx,hb2],fun _ => rfl⟩⟩
 have hro:ROc w (ctx (s.set (.R i c) (.r ver (some { r with fz := true }))) w W').S (.sl r.el r.e) r.l [W.sv i c] := by
  refine RowRep.ro hR (fun g hg => ⟨h.lt g (by rw [hg]; simp),?_⟩) hS
  show (if _ then _ else _) = _
  rw [if_pos hg]
 refine ⟨W',?_,hX,hR.1,hro,fun g l hg hl => by
  show (if _ then _ else _) = _
  rw [if_neg (by rw [hg]; intro e; exact hl (Option.some.inj e))]
  exact hg⟩
 refine h.change (fun l => l = .R i c) (fun l hl => St.set_ne _ _ hl) (fun _ => by simp) (by simp) (fun g l hg hl => ⟨?_,rfl⟩) (fun _ _ => rfl) (fun _ _ _ => rfl) hX (fun b hb => by cases hb) ?_ (fun g hg => ?_) rfl rfl rfl (Nat.le_refl _) (fun g _ hg => ⟨?_,rfl⟩)
 ·show (if _ then _ else _) = _
  rw [if_neg (by rw [hg]; intro e; exact hl (Option.some.inj e))]
  exact hg
 ·intro i' c' e ver' r' hr'
  injection e with e1 e2
  subst e1
  subst e2
  rw [St.set_same] at hr'
  injection hr' with _ hr'
  injection hr' with hr'
  subst hr'
  refine ⟨hR.1,?_⟩
  rw [if_pos rfl]
  exact hro
 ·apply h.lt g
  intro e
  apply hg
  show (if _ then _ else _) = _
  split
  ·rfl
  ·exact e
 ·show (if _ then _ else _) = _
  split
  ·rfl
  ·exact hg
theorem freeze_run (h:Rel G s a w W) {c:Cell} {u:Unit} {v:Value} (hv:CRep (ctx s w W) c v) (hr:(Prg.freeze c).run s = some (u,s')):∃ W',Rel G s' a w W' ∧ Ext (ctx s w W) (ctx s' w W') ∧
  (∀ (r:Row) (s0:St),(Prg.rowOf c).run s = some (r,s0) → CRep (ctx s' w W') (.sl r.z r.el r.e r.l) v) ∧
  ∀ g l,W.ω g = some l → (∀ i c ver r,l = .R i c → s l ≠ .r ver (some r)) → W'.ω g = some l ∧ s' l = s l := by
 cases c with
 | row i c ver =>
  obtain ⟨r,e1,e2⟩ := getR_run hr
  split at e2
  ·rename_i hfz
   obtain ⟨_,rfl⟩ := pure_run e2
   obtain ⟨rfl,_⟩ := row_reads h e1 hv
   have hR := h.R i c ver r e1
   refine ⟨W,h,Ext.refl _,fun r' s0 hr' => ?_,fun g l hg _ => ⟨hg,rfl⟩⟩
   obtain ⟨r2,e3,e4⟩ := getR_run hr'
   rw [e1] at e3
   injection e3 with _ e3
   injection e3 with e3
   subst e3
   obtain ⟨rfl,_⟩ := pure_run e4
   obtain ⟨h4,h5⟩ := hR
   rw [if_pos hfz] at h5
   exact ⟨h4,h5⟩
  simp only [Prg.run,Option.some.injEq,Prod.mk.injEq] at e2
  obtain ⟨_,rfl⟩ := e2
  obtain ⟨rfl,_⟩ := row_reads h e1 hv
  obtain ⟨W',h1,h2,h3,h4,h5⟩ := rel_freezeR h e1
  refine ⟨W',h1,h2,fun r' s0 hr' => ?_,fun g l hg hl => by
   have hne:l ≠ .R i c := by rintro rfl; exact hl i c ver r rfl e1
   exact ⟨h5 g l hg hne,St.set_ne _ _ hne⟩⟩
  obtain ⟨r2,e3,e4⟩ := getR_run hr'
  rw [e1] at e3
  injection e3 with _ e3
  injection e3 with e3
  subst e3
  obtain ⟨rfl,_⟩ := pure_run e4
  exact ⟨h3,h4⟩
 | nil el e =>
  obtain ⟨_,rfl⟩ := pure_run hr
  refine ⟨W,h,Ext.refl _,fun r s0 hr' => ?_,fun g l hg _ => ⟨hg,rfl⟩⟩
  obtain ⟨rfl,_⟩ := pure_run hr'
  have:v = .slice none 0 0 := hv
  subst this
  exact ⟨rfl,none,0,rfl,⟨Nat.le_refl _,fun _ => rfl⟩,fun i x hx => by simp at hx⟩
 | sl z el e l =>
  obtain ⟨_,rfl⟩ := pure_run hr
  refine ⟨W,h,Ext.refl _,fun r s0 hr' => ?_,fun g l hg _ => ⟨hg,rfl⟩⟩
  obtain ⟨rfl,_⟩ := pure_run hr'
  exact hv
 | _ => obtain ⟨_,rfl⟩ := pure_run hr; exact ⟨W,h,Ext.refl _,fun r s0 hr' => (by cases hr'),fun g l hg _ => ⟨hg,rfl⟩⟩
theorem ok_slice (hE:E.tt = mkTI P) {o:Oper} {t:TypeId} {x:Operand} {lo hi:Option Operand} (ho:o.op = .slice t x lo hi none):OpOk P E G o := by
 intro s s' r a w W hr h K Q hK
 simp only [Prg.opP,ho] at hr
 obtain ⟨u,s1,q1,q2⟩ := bind_run hr
 obtain ⟨rfl,hu⟩ := ev_run h q1
 obtain ⟨rlo,s2,q3,q4⟩ := bind_run q2
 obtain ⟨rfl,hlo⟩ := evO_run h q3
 obtain ⟨rhi,s3,q5,q6⟩ := bind_run q4
 obtain ⟨rfl,hhi⟩ := evO_run h q5
 obtain ⟨d,s4,q7,q8⟩ := bind_run q6
 obtain ⟨rfl,_⟩ := dstP_run q7
 unfold Prg.sliceP at q8
 split at q8
 ·rename_i str
  obtain ⟨ti,s5,p1,p2⟩ := bind_run q8
  obtain ⟨rfl,hti⟩ := tt_ti hE p1
  obtain ⟨_,s6,p3,p4⟩ := bind_run p2
  obtain ⟨hb,rfl⟩ := chk_run p3
  have ht := (hti.bas _ hb).2.1 rfl
  obtain ⟨hn,s7,p5,p6⟩ := bind_run p4
  obtain ⟨rfl,hhn⟩ := boundOf_run p5 hhi
  obtain ⟨ln,s8,p7,p8⟩ := bind_run p6
  obtain ⟨rfl,hln⟩ := boundOf_run p7 hlo
  obtain ⟨rfl,rfl⟩ := pure_run p8
  have e1:a.eval x = .string str := GRep_one.1 hu
  refine wp_value (v := .string (str.extract ln hn)) (w' := w) ?_ (hK _ _ _ h (VRep_one.2 rfl))
  simp only [execOp,ho,e1,Option.map_none,Instr.sliceAt,Instr.slice,Sem.run_bind,run_underlying ht,Result.andThen_ok,Option.isSome_none,Bool.false_eq_true,if_false,run_sliceBounds (Nat.le_refl _) hhn hln,Sem.run_pure]
 ·rename_i c _
  have hc:CRep (ctx s4 w W) c (a.eval x) := GRep_one.1 hu
  obtain ⟨te,s5,p1,p2⟩ := bind_run q8
  obtain ⟨rfl,hte,ei,z,hei,hes,_⟩ := tt_elem hE p1
  obtain ⟨ro,s6,p3,p4⟩ := bind_run p2
  obtain ⟨rfl,hro⟩ := rowOf_run h p3 hc
  obtain ⟨_,s7,p5,p6⟩ := bind_run p4
  obtain ⟨⟨hel,hee⟩,rfl⟩ := chk_run p5
  obtain ⟨hn,s8,p7,p8⟩ := bind_run p6
  obtain ⟨rfl,hhn⟩ := boundOf_run p7 hhi
  obtain ⟨ln,s9,p9,p10⟩ := bind_run p8
  obtain ⟨rfl,hln⟩ := boundOf_run p9 hlo
  obtain ⟨A,cap,hA,⟨hlc,hnc⟩,hget⟩ := hro.slice
  have hrun:(execOp a.eval o).run P w = .ok (.value (.slice (if cap = ln then A else A.map (·.add (ln * ei.size))) (hn - ln) (cap - ln))) w := by
   simp only [execOp,ho,hA,Option.map_none,Instr.sliceAt,Instr.slice,Sem.run_bind,run_underlying hte,Result.andThen_ok,run_sliceBounds hlc hhn hln,run_sizeOf hei,Sem.run_pure]
  have hhl:hn ≤ ro.l.length := by
   rcases hhn with ⟨_,rfl⟩ | ⟨_,_,i,_,_,_,h3,rfl⟩
   ·exact Nat.le_refl _
   ·omega
  have hll:ln ≤ hn := by
   rcases hln with ⟨_,rfl⟩ | ⟨_,_,i,_,_,_,h3,rfl⟩
   ·exact Nat.zero_le _
   ·omega
  split at p10
  ·obtain ⟨_,s10,k1,k2⟩ := bind_run p10
   obtain ⟨⟨hl0,hfz⟩,rfl⟩ := chk_run k1
   obtain ⟨y,s11,k3,k4⟩ := bind_run k2
   obtain ⟨_,s12,k5,k6⟩ := bind_run k4
   obtain ⟨rfl,hgrow⟩ := grows_run k5
   obtain ⟨ver,r0,hd,rfl,rfl⟩ := newRow_run k6
   subst hl0
   obtain ⟨h12,ψ,f1,f2,_,f4⟩ := take_run h k3 hc
   have hy:y = .own ro.z ro.d ro.el ro.e ro.l := by
    rcases take_shape p3 k3 with ⟨el',e',_,e2⟩ | e1 | e1
    ·rw [e2] at hfz; cases hfz
    ·exact absurd e1 (hgrow _ _ _ _)
    ·exact e1
   subst hy
   have hR:RowRep w (ctx s12 w W).S ψ ⟨false,ro.z,ro.d,ro.el,ro.e,ro.l⟩ (a.eval x) := f1
   obtain ⟨_,hR⟩ := hR
   rw [if_neg (by simp)] at hR
   obtain ⟨vals,o1,o2,o3⟩ := hR
   have hv':(Value.slice (if cap = 0 then A else A.map (·.add (0 * ei.size))) (hn - 0) (cap - 0)) = .slice A hn cap := by
    have e1:(if cap = 0 then A else A.map (·.add (0 * ei.size))) = A := by
     split
     ·rfl
     ·cases A <;> simp [Addr.add]
    rw [e1,Nat.sub_zero,Nat.sub_zero]
   rw [hv'] at hrun
   have hob:(Value.slice A hn cap).ownBlock = (a.eval x).ownBlock := by rw [hA]; cases A <;> rfl
   have hown:ownR w 0 ro.el ro.e.size (.slice A hn cap) (ro.l.take hn).length (vals.take (hn * ro.e.size)) := by
    have hl:(ro.l.take hn).length = hn := by rw [List.length_take,Nat.min_eq_left hhl]
    have o11:vals.length = ro.l.length * ro.e.size := o1.1
    rw [hl]
    have hmul:hn * ro.e.size ≤ ro.l.length * ro.e.size := Nat.mul_le_mul_right _ hhl
    refine ⟨by rw [List.length_take,o11,Nat.min_eq_left hmul],?_⟩
    rcases o1.2 with ⟨e1,e2⟩ | ⟨g,cap',cur,e1,e2,e3,e4,e5,e6,e7⟩
    ·rw [hA] at e1
     injection e1 with e1 e1' e1''
     subst e1
     exact .inl ⟨by rw [show hn = 0 by omega,e1''],by omega⟩
    ·rw [hA] at e1
     injection e1 with e1 e1' e1''
     subst e1
     subst e1''
     refine .inr ⟨g,cap,cur,rfl,e2,e3,by omega,e5,e6,?_⟩
     rw [← e7,List.take_take,Nat.min_eq_left hmul]
   have hpart:∀ i,i < hn → (((vals.take (hn * ro.e.size)).drop (i * ro.e.size)).take ro.e.size) = (vals.drop (i * ro.e.size)).take ro.e.size := by
    intro i hi
    have h1:(i + 1) * ro.e.size ≤ hn * ro.e.size := Nat.mul_le_mul_right _ hi
    rw [Nat.add_mul,Nat.one_mul] at h1
    rw [List.drop_take,List.take_take,Nat.min_eq_left (by omega)]
   have hget':∀ (i:Nat) (y:ro.e.den),(ro.l.take hn)[i]? = some y → i < hn ∧ ro.l[i]? = some y := by
    intro i y hy
    rw [List.getElem?_take] at hy
    split at hy
    ·exact ⟨by assumption,hy⟩
    ·cases hy
   obtain ⟨W',h13,h14,_⟩ := rel_newR (w' := w) h12 hd ⟨false,.any,ro.d,ro.el,ro.e,ro.l.take hn⟩ (.slice A hn cap) ψ (fun _ => False) (fun g hg => (f2 g hg).1) (fun _ h => h.elim) (fun _ _ _ => rfl) rfl rfl rfl (Nat.le_refl _)
    ⟨trivial,by
     rw [if_neg (by simp)]
     refine ⟨vals.take (hn * ro.e.size),hown,fun g hg => .inl (o2 g (by rw [← hob]; exact hg)),?_⟩
     split at o3
     ·rename_i hdd
      rw [if_pos hdd]
      obtain ⟨χ,x1,x2,x3⟩ := o3
      refine ⟨χ,fun i g hg => ⟨.inl (x1 i g hg).1,by rw [hob]; exact (x1 i g hg).2⟩,x2,fun i y hy => ?_⟩
      obtain ⟨hi,hy'⟩ := hget' i y hy
      rw [hpart i hi]
      exact x3 i y hy'
     ·rename_i hdd
      rw [if_neg hdd]
      intro i y hy
      obtain ⟨hi,hy'⟩ := hget' i y hy
      rw [hpart i hi]
      refine ROc.move (fun g hg => ⟨⟨hg.1,?_,.inl hg.2⟩,rfl⟩) _ _ _ (o3 i y hy')
      intro hψ
      exact (f2 g hψ).1.ne hg.2⟩
   exact wp_value hrun (hK _ _ W' h13 (VRep_one.2 h14))
  ·obtain ⟨_,s10,k1,k2⟩ := bind_run p10
   obtain ⟨W',h1,_,h3,_⟩ := freeze_run h hc k1
   obtain ⟨rfl,rfl⟩ := pure_run k2
   have hlen:((ro.l.take hn).drop ln).length = hn - ln := by rw [List.length_drop,List.length_take,Nat.min_eq_left hhl]
   obtain ⟨_,A2,cap2,e2,_,get2⟩ := h3 ro _ p3
   simp only [List.cons.injEq,and_true] at e2
   rw [hA] at e2
   injection e2 with e2 _ e3
   subst e2
   refine wp_value hrun (hK _ _ W' h1 (VRep_one.2 ⟨trivial,(if cap = ln then A else A.map (·.add (ln * ei.size))),cap - ln,by rw [hlen],⟨by rw [hlen]; omega,fun hn0 => by
    split at hn0
    ·omega
    ·have := hnc (by simpa using hn0)
     omega⟩,fun i y hy => ?_⟩))
   have hi:i < hn - ln := by rw [← hlen]; exact (List.getElem?_eq_some_iff.1 hy).1
   have hy':ro.l[ln + i]? = some y := by
    rw [List.getElem?_drop,List.getElem?_take] at hy
    split at hy
    ·exact hy
    ·cases hy
   obtain ⟨g,off,cv,rfl,g1,g2,g3,g4⟩ := get2 (ln + i) y hy'
   refine ⟨g,off + ln * ei.size,cv,?_,g1,g2,?_,g4⟩
   ·rw [if_neg (by omega)]
    simp only [Option.map_some,Addr.add_mid]
   ·rw [hes,← hee,show off + ln * ro.e.size + i * ro.e.size = off + (ln + i) * ro.e.size by rw [Nat.add_mul]; omega]
    exact g3
 ·cases q8
theorem run_sliceBounds3 {len cap hn ln:Nat} {m:Value} {lo hi:Option Operand} (hlc:len ≤ cap) (hm:∃ k,m = .int k (len:Int)) (hh:∃ z k i,hi = some z ∧ a.eval z = .int k i ∧ 0 ≤ i ∧ i ≤ (len:Int) ∧ hn = i.toNat)
  (hl:lo = none ∧ ln = 0 ∨ ∃ z k i,lo = some z ∧ a.eval z = .int k i ∧ 0 ≤ i ∧ i ≤ (hn:Int) ∧ ln = i.toNat) :
  (Instr.sliceBounds true len cap (lo.map a.eval) (hi.map a.eval) (some m)).run P w = .ok (ln,hn,len) w := by
 obtain ⟨k0,rfl⟩ := hm
 have h0:∀ code,(Instr.sliceBound (.int k0 (len:Int)) cap code).run P w = .ok len w := fun code => by
  have := run_sliceBound (P := P) (w := w) (k := k0) (i := (len:Int)) (y := cap) (code := code) ⟨by omega,by omega⟩
  rwa [Int.toNat_natCast] at this
 obtain ⟨z,k,i,rfl,e1,e2,e3,rfl⟩ := hh
 rcases hl with ⟨rfl,rfl⟩ | ⟨z',k',i',rfl,f1,f2,f3,rfl⟩
 ·simp only [Instr.sliceBounds,Option.map_none,Option.map_some,Sem.run_bind,Sem.run_pure,Result.andThen_ok,h0,e1,run_sliceBound ⟨e2,e3⟩]
 ·simp only [Instr.sliceBounds,Option.map_none,Option.map_some,Sem.run_bind,Sem.run_pure,Result.andThen_ok,h0,e1,run_sliceBound ⟨e2,e3⟩,f1,run_sliceBound ⟨f2,f3⟩]
theorem ok_slice3 (hE:E.tt = mkTI P) {o:Oper} {t:TypeId} {x m:Operand} {lo hi:Option Operand} (ho:o.op = .slice t x lo hi (some m)):OpOk P E G o := by
 intro s s' r a w W hr h K Q hK
 simp only [Prg.opP,ho] at hr
 obtain ⟨u,s1,q1,q2⟩ := bind_run hr
 obtain ⟨rfl,hu⟩ := ev_run h q1
 obtain ⟨rlo,s2,q3,q4⟩ := bind_run q2
 obtain ⟨rfl,hlo⟩ := evO_run h q3
 obtain ⟨rhi,s3,q5,q6⟩ := bind_run q4
 obtain ⟨rfl,hhi⟩ := evO_run h q5
 obtain ⟨mx,s35,q7,q75⟩ := bind_run q6
 obtain ⟨rfl,km,hkm⟩ := asIntP_run h q7
 obtain ⟨d,s4,q76,q8⟩ := bind_run q75
 obtain ⟨rfl,_⟩ := dstP_run q76
 unfold Prg.slice3P at q8
 split at q8
 ·rename_i c
  have hc:CRep (ctx s4 w W) c (a.eval x) := GRep_one.1 hu
  obtain ⟨te,s5,p1,p2⟩ := bind_run q8
  obtain ⟨rfl,hte,ei,z,hei,hes,_⟩ := tt_elem hE p1
  obtain ⟨ro,s6,p3,p4⟩ := bind_run p2
  obtain ⟨rfl,hro⟩ := rowOf_run h p3 hc
  obtain ⟨_,s7,p5,p6⟩ := bind_run p4
  obtain ⟨⟨hel,hee,hsome⟩,rfl⟩ := chk_run p5
  obtain ⟨_,s75,pa,pb⟩ := bind_run p6
  obtain ⟨hmx,rfl⟩ := sure_run pa
  have hmx := of_decide_eq_true hmx
  obtain ⟨hn,s8,p7,p8⟩ := bind_run pb
  obtain ⟨rfl,hhn⟩ := boundOf_run p7 hhi
  obtain ⟨ln,s9,p9,p10⟩ := bind_run p8
  obtain ⟨rfl,hln⟩ := boundOf_run p9 hlo
  obtain ⟨A,cap,hA,⟨hlc,hnc⟩,hget⟩ := hro.slice
  have hhn':∃ z k i,hi = some z ∧ a.eval z = .int k i ∧ 0 ≤ i ∧ i ≤ (ro.l.length:Int) ∧ hn = i.toNat := by
   rcases hhn with ⟨e,_⟩ | hh
   ·rcases hhi with ⟨_,e2⟩ | ⟨y,v,e2,_⟩
    ·rw [e2] at hsome; cases hsome
    ·rw [e] at e2; cases e2
   ·exact hh
  have hrun:(execOp a.eval o).run P w = .ok (.value (.slice (if ro.l.length = ln then A else A.map (·.add (ln * ei.size))) (hn - ln) (ro.l.length - ln))) w := by
   simp only [execOp,ho,hA,Option.map_some,Instr.sliceAt,Instr.slice,Sem.run_bind,run_underlying hte,Result.andThen_ok,run_sliceBounds3 (m := a.eval m) hlc ⟨km,by rw [hkm,hmx]⟩ hhn' hln,run_sizeOf hei,Sem.run_pure]
  have hhl:hn ≤ ro.l.length := by
   obtain ⟨_,_,i,_,_,_,h3,rfl⟩ := hhn'
   omega
  have hll:ln ≤ hn := by
   rcases hln with ⟨_,rfl⟩ | ⟨_,_,i,_,_,_,h3,rfl⟩
   ·exact Nat.zero_le _
   ·omega
  split at p10
  ·obtain ⟨_,s10,k1,k2⟩ := bind_run p10
   obtain ⟨⟨hl0,hfz⟩,rfl⟩ := chk_run k1
   obtain ⟨y,s11,k3,k4⟩ := bind_run k2
   obtain ⟨_,s12,k5,k6⟩ := bind_run k4
   obtain ⟨rfl,hgrow⟩ := grows_run k5
   obtain ⟨ver,r0,hd,rfl,rfl⟩ := newRow_run k6
   subst hl0
   obtain ⟨h12,ψ,f1,f2,_,f4⟩ := take_run h k3 hc
   have hy:y = .own ro.z ro.d ro.el ro.e ro.l := by
    rcases take_shape p3 k3 with ⟨el',e',_,e2⟩ | e1 | e1
    ·rw [e2] at hfz; cases hfz
    ·exact absurd e1 (hgrow _ _ _ _)
    ·exact e1
   subst hy
   have hR:RowRep w (ctx s12 w W).S ψ ⟨false,ro.z,ro.d,ro.el,ro.e,ro.l⟩ (a.eval x) := f1
   obtain ⟨_,hR⟩ := hR
   rw [if_neg (by simp)] at hR
   obtain ⟨vals,o1,o2,o3⟩ := hR
   have hv':(Value.slice (if ro.l.length = 0 then A else A.map (·.add (0 * ei.size))) (hn - 0) (ro.l.length - 0)) = .slice A hn ro.l.length := by
    have e1:(if ro.l.length = 0 then A else A.map (·.add (0 * ei.size))) = A := by
     split
     ·rfl
     ·cases A <;> simp [Addr.add]
    rw [e1,Nat.sub_zero,Nat.sub_zero]
   rw [hv'] at hrun
   have hob:(Value.slice A hn ro.l.length).ownBlock = (a.eval x).ownBlock := by rw [hA]; cases A <;> rfl
   have hown:ownR w 0 ro.el ro.e.size (.slice A hn ro.l.length) (ro.l.take hn).length (vals.take (hn * ro.e.size)) := by
    have hl:(ro.l.take hn).length = hn := by rw [List.length_take,Nat.min_eq_left hhl]
    have o11:vals.length = ro.l.length * ro.e.size := o1.1
    rw [hl]
    have hmul:hn * ro.e.size ≤ ro.l.length * ro.e.size := Nat.mul_le_mul_right _ hhl
    refine ⟨by rw [List.length_take,o11,Nat.min_eq_left hmul],?_⟩
    rcases o1.2 with ⟨e1,e2⟩ | ⟨g,cap',cur,e1,e2,e3,e4,e5,e6,e7⟩
    ·rw [hA] at e1
     injection e1 with e1 e1' e1''
     subst e1
     exact .inl ⟨by rw [show hn = 0 by omega,e2],by omega⟩
    ·rw [hA] at e1
     injection e1 with e1 e1' e1''
     subst e1
     subst e1''
     refine .inr ⟨g,ro.l.length,cur,rfl,e2,e3,hhl,by omega,Nat.le_trans (Nat.mul_le_mul_right _ e4) e6,?_⟩
     rw [← e7,List.take_take,Nat.min_eq_left hmul]
   have hpart:∀ i,i < hn → (((vals.take (hn * ro.e.size)).drop (i * ro.e.size)).take ro.e.size) = (vals.drop (i * ro.e.size)).take ro.e.size := by
    intro i hi
    have h1:(i + 1) * ro.e.size ≤ hn * ro.e.size := Nat.mul_le_mul_right _ hi
    rw [Nat.add_mul,Nat.one_mul] at h1
    rw [List.drop_take,List.take_take,Nat.min_eq_left (by omega)]
   have hget':∀ (i:Nat) (y:ro.e.den),(ro.l.take hn)[i]? = some y → i < hn ∧ ro.l[i]? = some y := by
    intro i y hy
    rw [List.getElem?_take] at hy
    split at hy
    ·exact ⟨by assumption,hy⟩
    ·cases hy
   obtain ⟨W',h13,h14,_⟩ := rel_newR (w' := w) h12 hd ⟨false,.any,ro.d,ro.el,ro.e,ro.l.take hn⟩ (.slice A hn ro.l.length) ψ (fun _ => False) (fun g hg => (f2 g hg).1) (fun _ h => h.elim) (fun _ _ _ => rfl) rfl rfl rfl (Nat.le_refl _)
    ⟨trivial,by
     rw [if_neg (by simp)]
     refine ⟨vals.take (hn * ro.e.size),hown,fun g hg => .inl (o2 g (by rw [← hob]; exact hg)),?_⟩
     split at o3
     ·rename_i hdd
      rw [if_pos hdd]
      obtain ⟨χ,x1,x2,x3⟩ := o3
      refine ⟨χ,fun i g hg => ⟨.inl (x1 i g hg).1,by rw [hob]; exact (x1 i g hg).2⟩,x2,fun i y hy => ?_⟩
      obtain ⟨hi,hy'⟩ := hget' i y hy
      rw [hpart i hi]
      exact x3 i y hy'
     ·rename_i hdd
      rw [if_neg hdd]
      intro i y hy
      obtain ⟨hi,hy'⟩ := hget' i y hy
      rw [hpart i hi]
      refine ROc.move (fun g hg => ⟨⟨hg.1,?_,.inl hg.2⟩,rfl⟩) _ _ _ (o3 i y hy')
      intro hψ
      exact (f2 g hψ).1.ne hg.2⟩
   exact wp_value hrun (hK _ _ W' h13 (VRep_one.2 h14))
  ·obtain ⟨_,s10,k1,k2⟩ := bind_run p10
   obtain ⟨W',h1,_,h3,_⟩ := freeze_run h hc k1
   obtain ⟨rfl,rfl⟩ := pure_run k2
   have hlen:((ro.l.take hn).drop ln).length = hn - ln := by rw [List.length_drop,List.length_take,Nat.min_eq_left hhl]
   obtain ⟨_,A2,cap2,e2,_,get2⟩ := h3 ro _ p3
   simp only [List.cons.injEq,and_true] at e2
   rw [hA] at e2
   injection e2 with e2 _ e3
   subst e2
   refine wp_value hrun (hK _ _ W' h1 (VRep_one.2 ⟨trivial,(if ro.l.length = ln then A else A.map (·.add (ln * ei.size))),ro.l.length - ln,by rw [hlen],⟨by rw [hlen]; omega,fun hn0 => by
    split at hn0
    ·omega
    ·have := hnc (by simpa using hn0)
     omega⟩,fun i y hy => ?_⟩))
   have hi:i < hn - ln := by rw [← hlen]; exact (List.getElem?_eq_some_iff.1 hy).1
   have hy':ro.l[ln + i]? = some y := by
    rw [List.getElem?_drop,List.getElem?_take] at hy
    split at hy
    ·exact hy
    ·cases hy
   obtain ⟨g,off,cv,rfl,g1,g2,g3,g4⟩ := get2 (ln + i) y hy'
   refine ⟨g,off + ln * ei.size,cv,?_,g1,g2,?_,g4⟩
   ·rw [if_neg (by omega)]
    simp only [Option.map_some,Addr.add_mid]
   ·rw [hes,← hee,show off + ln * ro.e.size + i * ro.e.size = off + (ln + i) * ro.e.size by rw [Nat.add_mul]; omega]
    exact g3
 ·cases q8
end
section
variable {G:Beg} {s s':St} {a:Act} {w w':World} {W W':Wit} {P:Program} {E:Env}
theorem cellsOwn_rep {X:Ctx} (e:Ty):∀ (x:e.den) (c:List Value) (φ:Nat → Prop),OWc X.w e x φ c → ∃ ψ:Nat → Nat → Prop,(∀ i g,ψ i g → φ g ∧ i < e.size) ∧ (∀ i j g,ψ i g → ψ j g → i = j) ∧ FAll X ψ 0 (cellsOwn e x) c := by
 induction e with
 | int k => intro x c φ h; rw [show c = _ from h]; exact ⟨fun _ _ => False,fun _ _ h => h.elim,fun _ _ _ h => h.elim,rfl,trivial⟩
 | bool => intro x c φ h; rw [show c = _ from h]; exact ⟨fun _ _ => False,fun _ _ h => h.elim,fun _ _ _ h => h.elim,rfl,trivial⟩
 | str => intro x c φ h; rw [show c = _ from h]; exact ⟨fun _ _ => False,fun _ _ h => h.elim,fun _ _ _ h => h.elim,rfl,trivial⟩
 | sl el e ih =>
  intro x c φ h
  obtain ⟨v,vals,rfl,h2,h3,ψ,h4,h5,h6⟩ := h
  refine ⟨fun i g => i = 0 ∧ φ g,fun i g hg => ⟨hg.2,by rw [hg.1]; simp [Ty.size]⟩,fun i j g hi hj => by rw [hi.1,hj.1],⟨trivial,?_⟩,trivial⟩
  rw [if_neg (by simp)]
  refine ⟨vals,h2,fun g hg => ⟨rfl,h3 g hg⟩,?_⟩
  rw [if_pos rfl]
  exact ⟨ψ,fun i g hg => ⟨⟨rfl,(h4 i g hg).1⟩,(h4 i g hg).2⟩,h5,h6⟩
 | pair a b iha ihb =>
  intro x c φ h
  obtain ⟨c1,c2,ψ1,ψ2,rfl,hl,h3,h4,h5,h6,h7⟩ := h
  obtain ⟨χ1,a1,a2,a3⟩ := iha _ _ _ h6
  obtain ⟨χ2,b1,b2,b3⟩ := ihb _ _ _ h7
  refine ⟨fun i g => if i < a.size then χ1 i g else χ2 (i - a.size) g,fun i g hg => ?_,fun i j g hi hj => ?_,?_⟩
  ·by_cases hi:i < a.size
   ·simp only [hi,if_true] at hg; exact ⟨h3 g (a1 i g hg).1,by simp only [Ty.size]; omega⟩
   ·simp only [hi,if_false] at hg; exact ⟨h4 g (b1 _ g hg).1,by have := (b1 _ g hg).2; simp only [Ty.size]; omega⟩
  ·by_cases h1:i < a.size <;> by_cases h2:j < a.size
   ·simp only [h1,if_true] at hi; simp only [h2,if_true] at hj; exact a2 i j g hi hj
   ·simp only [h1,if_true] at hi; simp only [h2,if_false] at hj; exact (h5 g (a1 i g hi).1 (b1 _ g hj).1).elim
   ·simp only [h1,if_false] at hi; simp only [h2,if_true] at hj; exact (h5 g (a1 j g hj).1 (b1 _ g hi).1).elim
   ·simp only [h1,if_false] at hi; simp only [h2,if_false] at hj; have := b2 _ _ g hi hj; omega
  ·have key1:∀ (cs:List Cell) (vs:List Value) (k:Nat),k + cs.length ≤ a.size → FAll X χ1 k cs vs → FAll X (fun i g => if i < a.size then χ1 i g else χ2 (i - a.size) g) k cs vs := by
    intro cs
    induction cs with
    | nil => intro vs k _ h; cases vs with
     | nil => trivial
     | cons _ _ => exact h.elim
    | cons c cs ih => intro vs k hk h; cases vs with
     | nil => exact h.elim
     | cons v vs =>
      simp only [List.length_cons] at hk
      refine ⟨?_,ih vs (k + 1) (by omega) h.2⟩
      have e1:(fun g => if k < a.size then χ1 k g else χ2 (k - a.size) g) = χ1 k := by funext g; rw [if_pos (by omega)]
      show FRep X (fun g => if k < a.size then χ1 k g else χ2 (k - a.size) g) c v
      rw [e1]
      exact h.1
   have key2:∀ (cs:List Cell) (vs:List Value) (k:Nat),FAll X χ2 k cs vs → FAll X (fun i g => if i < a.size then χ1 i g else χ2 (i - a.size) g) (a.size + k) cs vs := by
    intro cs
    induction cs with
    | nil => intro vs k h; cases vs with
     | nil => trivial
     | cons _ _ => exact h.elim
    | cons c cs ih => intro vs k h; cases vs with
     | nil => exact h.elim
     | cons v vs =>
      refine ⟨?_,ih vs (k + 1) h.2⟩
      have e1:(fun g => if a.size + k < a.size then χ1 (a.size + k) g else χ2 (a.size + k - a.size) g) = χ2 k := by funext g; rw [if_neg (by omega),Nat.add_sub_cancel_left]
      show FRep X (fun g => if a.size + k < a.size then χ1 (a.size + k) g else χ2 (a.size + k - a.size) g) c v
      rw [e1]
      exact h.1
   have app:∀ (cs:List Cell) (vs:List Value) (cs':List Cell) (vs':List Value) (k:Nat) (ψ:Nat → Nat → Prop),FAll X ψ k cs vs → FAll X ψ (k + cs.length) cs' vs' → FAll X ψ k (cs ++ cs') (vs ++ vs') := by
    intro cs
    induction cs with
    | nil => intro vs cs' vs' k ψ h h'; cases vs with
     | nil => simpa using h'
     | cons _ _ => exact h.elim
    | cons c cs ih => intro vs cs' vs' k ψ h h'; cases vs with
     | nil => exact h.elim
     | cons v vs => exact ⟨h.1,ih vs cs' vs' (k + 1) ψ h.2 (by rw [List.length_cons] at h'; rwa [show k + 1 + cs.length = k + (cs.length + 1) by omega])⟩
   have hlc:(cellsOwn a x.1).length = a.size := by rw [a3.length,hl]
   refine app _ _ _ _ 0 _ (key1 _ _ 0 (by omega) a3) ?_
   rw [Nat.zero_add,hlc]
   have := key2 _ _ 0 b3
   rwa [Nat.add_zero] at this
theorem FAll.sets {X Y:Ctx} (hX:Ext X Y) {ψ ψ':Nat → Nat → Prop} (d:Nat):∀ {cs:List Cell} {vs:List Value} {k:Nat},(∀ j g,j < k + cs.length → k ≤ j → ψ j g → ψ' (d + j) g ∧ Y.w.heap[g]? = X.w.heap[g]?) → FAll X ψ k cs vs → FAll Y ψ' (d + k) cs vs
 | [],[],_,_,_ => trivial
 | c :: cs,v :: vs,k,h,hf => ⟨FRep.move hX (fun g hg => h k g (by simp) (Nat.le_refl _) hg) hf.1,FAll.sets hX d (k := k + 1) (fun j g h1 h2 h3 => h j g (by simp only [List.length_cons]; omega) (by omega) h3) hf.2⟩
theorem cellsOf_len (e:Ty) (x:e.den):(cellsOf e x).length = e.size := by
 induction e with
 | pair a b iha ihb => simp only [cellsOf,List.length_append,iha,ihb,Ty.size]
 | _ => rfl
theorem cellsOwn_len (e:Ty) (x:e.den):(cellsOwn e x).length = e.size := by
 induction e with
 | pair a b iha ihb => simp only [cellsOwn,List.length_append,iha,ihb,Ty.size]
 | _ => rfl
end
section
variable {G:Beg} {s s':St} {a:Act} {w w':World} {W W':Wit} {P:Program} {E:Env}
theorem rel_updR (h:Rel G s a w W) {i c ver:Nat} {r r':Row} (hr:s (.R i c) = .r ver (some r)) (hf:r.fz = false) (Φ Ψ:Nat → Prop) (hΦ:∀ g,Φ g → Loose s W g) (hΨ:∀ g,Ψ g → Loose s W g ∨ W.ω g = some (.R i c))
  (hkeep:∀ g,(W.sv i c).ownBlock ≠ some g → w'.heap[g]? = w.heap[g]?) (hos:w'.os = w.os) (htape:w'.tape = w.tape) (hout:w'.output = w.output) (hsz:w'.heap.size = w.heap.size)
  (hrep:RowRep w' (fun g => g < w.heap.size ∧ ¬ Φ g ∧ (W.ω g = none ∨ Ψ g) ∧ (W.sv i c).ownBlock ≠ some g) (fun g => Φ g ∨ (W.ω g = some (.R i c) ∧ ¬ Ψ g)) r' (W.sv i c)) :
  ∃ W',Rel G (s.set (.R i c) (.r ver (some r'))) a w' W' ∧ Ext (ctx s w W) (ctx (s.set (.R i c) (.r ver (some r'))) w' W') := by
 obtain ⟨hb1,hb2⟩ := ctx_row s w W (r := r') hr
 have hR := h.R i c ver r hr
 have hob:∀ g,(W.sv i c).ownBlock = some g → W.ω g = some (.R i c) := by
  obtain ⟨_,hR⟩ := hR
  rw [if_neg (by simp [hf])] at hR
  obtain ⟨_,_,o2,_⟩ := hR
  exact o2
 classical
 let ω':Nat → Option Pl := fun g => if Φ g then some (.R i c) else if Ψ g then none else W.ω g
 let W':Wit := ⟨ω',W.ad,W.sv⟩
 have hΦω:∀ g,Φ g → W.ω g ≠ none := fun g hg => (hΦ g hg).ne
 have hSne:∀ g,W.ω g = none → (W.sv i c).ownBlock ≠ some g := fun g hg e => by rw [hob g e] at hg; cases hg
 have hX:Ext (ctx s w W) (ctx (s.set (.R i c) (.r ver (some r'))) w' W') := by
  refine ⟨?_,fun b => ⟨by simp [ctx,hb1],fun _ => rfl⟩,fun i c => ⟨by simp [ctx,hb2],fun _ => rfl⟩⟩
  rintro g ⟨g1,g2⟩
  refine ⟨⟨by show g < w'.heap.size; rw [hsz]; exact g1,?_⟩,hkeep g (hSne g g2)⟩
  show (if _ then _ else _) = _
  rw [if_neg (fun e => hΦω g e g2)]
  split
  ·rfl
  ·exact g2
 refine ⟨W',?_,hX⟩
 refine h.change (fun l => l = .R i c ∨ Dead s l) (fun l hl => St.set_ne _ _ (fun e => hl (.inl e))) (fun i => ⟨by rintro (e | e); cases e; exact Dead.not_T e,by rintro (e | e); cases e; exact Dead.not_K e⟩) (by rintro (e | e); cases e; exact Dead.not_F e)
  (fun g l hg hl => ?_) (fun _ _ => rfl) (fun _ _ _ => rfl) hX (fun b hb => ?_) ?_ (fun g hg => ?_) hos htape hout (by rw [hsz]; exact Nat.le_refl _) (fun g hg hn => ?_)
 ·have hn:¬ Φ g := fun e => hl (.inr ((hΦ g e).dead hg))
  have hn2:¬ Ψ g := by
   intro e
   rcases hΨ g e with e1 | e1
   ·exact hl (.inr (e1.dead hg))
   ·rw [hg] at e1; exact hl (.inl (Option.some.inj e1))
  refine ⟨?_,hkeep g (fun e => ?_)⟩
  ·show (if _ then _ else _) = _
   rw [if_neg hn,if_neg hn2]
   exact hg
  ·rw [hob g e] at hg; exact hl (.inl (Option.some.inj hg).symm)
 ·rcases hb with e | e
  ·cases e
  ·exact absurd e Dead.not_B
 ·intro i' j' hij ver' r'' hr''
  by_cases e:i' = i ∧ j' = c
  ·obtain ⟨rfl,rfl⟩ := e
   rw [St.set_same] at hr''
   injection hr'' with _ hr''
   injection hr'' with hr''
   subst hr''
   refine RowRep.move (fun g hg => ⟨⟨by show g < w'.heap.size; rw [hsz]; exact hg.1,?_⟩,rfl⟩) (fun g hg => ⟨?_,rfl⟩) hrep
   ·show (if _ then _ else _) = _
    rw [if_neg hg.2.1]
    split
    ·rfl
    ·rename_i h4
     rcases hg.2.2.1 with h3 | h3
     ·exact h3
     ·exact absurd h3 h4
   ·show (if _ then _ else _) = _
    rcases hg with hg | ⟨g1,g2⟩
    ·rw [if_pos hg]
    ·split
     ·rfl
     ·first | exact g1 | (rw [if_neg g2]; exact g1)
  ·rw [St.set_ne _ _ (by intro h'; injection h' with h1 h2; exact e ⟨h1,h2⟩)] at hr''
   rcases hij with h1 | h1
   ·injection h1 with h1 h2; exact absurd ⟨h1,h2⟩ e
   ·obtain ⟨k,h2⟩ := h1.row
    rw [h2] at hr''
    injection hr'' with _ hr''
    cases hr''
 ·rw [hsz]
  by_cases e:Φ g
  ·exact h.lt g (hΦω g e)
  ·apply h.lt g
   intro e'
   apply hg
   show (if _ then _ else _) = _
   rw [if_neg e]
   split
   ·rfl
   ·exact e'
 ·refine ⟨?_,hkeep g (hSne g hn)⟩
  show (if _ then _ else _) = _
  rw [if_neg (fun e => hΦω g e hn)]
  split
  ·rfl
  ·exact hn
theorem part_splice {vals us:List Value} {n sz k off:Nat} (hl:vals.length = n * sz) (hk:k < n) (ho:off + us.length ≤ sz) (i:Nat) :
  ((vals.take (k * sz + off) ++ us ++ vals.drop (k * sz + off + us.length)).drop (i * sz)).take sz = if i = k then (((vals.drop (k * sz)).take sz).take off ++ us ++ ((vals.drop (k * sz)).take sz).drop (off + us.length)) else (vals.drop (i * sz)).take sz := by
 have h1:(k + 1) * sz ≤ n * sz := Nat.mul_le_mul_right _ hk
 rw [Nat.add_mul,Nat.one_mul] at h1
 have hfit:k * sz + off + us.length ≤ vals.length := by omega
 have hpl:((vals.drop (k * sz)).take sz).length = sz := by rw [List.length_take,List.length_drop]; omega
 apply List.ext_getElem?
 intro j
 rw [List.getElem?_take]
 by_cases hj:j < sz
 ·rw [if_pos hj,List.getElem?_drop,splice_get hfit]
  by_cases hi:i = k
  ·subst hi
   rw [if_pos rfl,splice_get (by rw [hpl]; exact ho),List.getElem?_take,if_pos hj,List.getElem?_drop]
   by_cases hin:off ≤ j ∧ j < off + us.length
   ·rw [if_pos hin,if_pos (by omega)]
    congr 1
    omega
   ·rw [if_neg hin,if_neg (by omega)]
  ·rw [if_neg hi,List.getElem?_take,if_pos hj,List.getElem?_drop,if_neg]
   intro hin
   rcases Nat.lt_or_gt_of_ne hi with h2 | h2
   ·have:(i + 1) * sz ≤ k * sz := Nat.mul_le_mul_right _ h2
    rw [Nat.add_mul,Nat.one_mul] at this
    omega
   ·have:(k + 1) * sz ≤ i * sz := Nat.mul_le_mul_right _ h2
    rw [Nat.add_mul,Nat.one_mul] at this
    omega
 ·rw [if_neg hj]
  split
  ·rw [splice_get (by rw [hpl]; exact ho),if_neg (by omega),List.getElem?_take,if_neg hj]
  ·rw [List.getElem?_take,if_neg hj]
theorem wp_store {o:Oper} {t:TypeId} {x y:Operand} (ho:o.op = .store t x y) {ti:TI} (hti:TIOk P t ti) {g off:Nat} {cur:Array Value} {el:TypeId} (hx:a.eval x = .pointer (some ⟨g,off,none⟩)) (hg:w.heap[g]? = some (.cells cur el (0,0)))
  (hs:(a.eval y).cells.size = ti.size) (hl:off + (a.eval y).cells.toList.length ≤ cur.size) (h1:∀ u ∈ (a.eval y).cells.toList,u.oneCell' = true) {K:Act → World → Prop} {Q:Exit → Act → World → Prop}
  (hK:K (a.put o.dst undef) (w.setRow g (cur.toList.take off ++ (a.eval y).cells.toList ++ cur.toList.drop (off + (a.eval y).cells.toList.length)).toArray)):o.wp P a w K Q := by
 refine wp_skip' ?_ hK
 simp only [execOp,ho,hx,Instr.storeAt,Instr.sureAddr,Sem.run_bind,Sem.run_pure,Result.andThen_ok,run_storeVar' hti hg hs hl h1]
end
end Go.Proofs.YtedhpmhlmdcpbaaGreatDoor.E
